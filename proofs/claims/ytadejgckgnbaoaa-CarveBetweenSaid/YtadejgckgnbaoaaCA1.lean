/- That functions of the seat compute this. Printed by a program of mine. -/
import Derived.Test.YtadejgckgnbaoaaS
import Derived.Test.YtadejgckgnbaoaaDA
namespace Go.Proofs.Ytadejgckgnbaoaa
open Go Go.Sx
set_option linter.unusedVariables false

set_option maxRecDepth 100000 in
theorem ct38  {steep : Int} {res : S_api_CvRow} (h : F38 steep = some res) : PCall Try.prog 38 [(di steep)] (.d (.agg [(di res.Steep), (L58 res.Points)])) := by
  refine PCall.of_awp tt_ok (N := 10) Try.func38 rfl (by kernel_rfl) rfl (Nat.le_of_ble_eq_true rfl) rfl ?_
  unfold F38 at h
  refine awp_sreg tt_ok (ks := [0, 2]) (hs := []) [(0, vi steep), (2, .ref 0 0)] [.cells [vi 0, .d dnil]] [] (by kernel_rfl) trivial ?_
  refine awp_sreg tt_ok (ks := [2]) (hs := []) [(2, .ref 0 0)] [.cells [vi steep, .d (L58 ([(⟨10, 4, 8⟩ : S_api_CvPoint), (⟨10, 9, 12⟩ : S_api_CvPoint), (⟨6, 7, 9⟩ : S_api_CvPoint), (⟨12, 3, 6⟩ : S_api_CvPoint)] : List S_api_CvPoint))]] [] (by kernel_rfl) trivial ?_
  obtain rfl := Option.some.inj h
  refine awp_wk 1 [2] (by kernel_rfl) [(2, .ref 0 0)] [.cells [vi steep, .d (L58 ([(⟨10, 4, 8⟩ : S_api_CvPoint), (⟨10, 9, 12⟩ : S_api_CvPoint), (⟨6, 7, 9⟩ : S_api_CvPoint), (⟨12, 3, 6⟩ : S_api_CvPoint)] : List S_api_CvPoint))]] (by kernel_rfl) (by kernel_rfl) ?_
  exact awp_ret (main_ret (by kernel_rfl))

set_option maxRecDepth 100000 in
theorem ct73  {p_n : Int} {b0x0 : Int} {b1x0 : Int} {res : Bool} (h : F73 p_n b0x0 b1x0 = some res) : HCall Try.prog 73 [vi p_n, .ref 0 0, .ref 1 0] [.cells [vi b0x0], .cells [vi b1x0]] (vb res) [.cells [vi b0x0], .cells [vi b1x0]] := by
  refine HCall.of_awpS tt_ok (N := 13) (fl := 2) Try.func73 rfl (by kernel_rfl) rfl rfl (Nat.le_of_ble_eq_true rfl) ?_
  unfold F73 at h
  refine awp_sreg tt_ok (ks := [0, 1, 2]) (hs := []) [(0, vi p_n), (1, .ref 0 0), (2, .ref 1 0)] [.cells [vi b0x0], .cells [vi b1x0]] [] (by kernel_rfl) trivial ?_
  refine awp_sreg tt_ok (ks := [4]) (hs := []) [(4, vb (cond (decide (p_n < b0x0)) true (decide (p_n > b1x0))))] [.cells [vi b0x0], .cells [vi b1x0]] [((!(decide (p_n < b0x0))) = true → (!(decide (p_n < b0x0))) = true), ((!(decide (p_n < b0x0))) = true → (!(decide (p_n < b0x0))) = true), ((decide (p_n < b0x0)) = false → (!(decide (p_n < b0x0))) = true)] (by kernel_rfl) (And.intro (id) (And.intro (id) (not_of))) ?_
  obtain rfl := Option.some.inj h
  refine awp_wk 2 [4] (by kernel_rfl) [(4, vb (cond (decide (p_n < b0x0)) true (decide (p_n > b1x0))))] [.cells [vi b0x0], .cells [vi b1x0]] (by kernel_rfl) (by kernel_rfl) ?_
  exact awp_ret (main_retS [0, 1] (vb (cond (decide (p_n < b0x0)) true (decide (p_n > b1x0)))) (by kernel_rfl) (by kernel_rfl) (by kernel_rfl) (by kernel_rfl))

set_option maxRecDepth 100000 in
theorem ct79 {fuel : Nat}  {p_s : (List Int)} {b0x0 : Int} {b1x0 : Int} {res : Int} (h : F79 fuel p_s b0x0 b1x0 = some res) : HCall Try.prog 79 [.d (L3 p_s), .fn (.func 73) [] [.ref 0 0, .ref 1 0]] [.cells [vi b0x0], .cells [vi b1x0]] (vi res) [.cells [vi b0x0], .cells [vi b1x0]] := by
  refine HCall.of_awpS tt_ok (N := 19) (fl := 2) Try.func79 rfl (by kernel_rfl) rfl rfl (Nat.le_of_ble_eq_true rfl) ?_
  unfold F79 at h
  refine awp_sreg tt_ok (ks := [0, 1]) (hs := []) [(0, .d (L3 p_s)), (1, .fn (.func 73) [] [.ref 0 0, .ref 1 0])] [.cells [vi b0x0], .cells [vi b1x0]] [] (by kernel_rfl) trivial ?_
  refine awp_seq ?_
  refine awp_sreg tt_ok (ks := [0, 1, 7, 8]) (hs := []) [(0, .d (L3 p_s)), (1, .fn (.func 73) [] [.ref 0 0, .ref 1 0]), (7, vi (p_s.length : Int)), (8, vi 0)] [.cells [vi b0x0], .cells [vi b1x0]] [] (by kernel_rfl) trivial ?_
  obtain ⟨o1, ho1, h⟩ := Option.bind_eq_some_iff.1 h
  refine awp_cut1 (OutQ (fun (ro1 : Int) => [(4, vi ro1)]) (fun (ro1 : Int) => [.cells [vi b0x0], .cells [vi b1x0]]) (fun (so1 : Unit) => []) (fun (so1 : Unit) => [.cells [vi b0x0], .cells [vi b1x0]]) o1) ?_ ?_
  · clear h
    have h := ho1
    clear ho1
    refine awp_selQ ?_
    refine awp_wk 2 [0, 1, 7, 8] (by kernel_rfl) [(0, .d (L3 p_s)), (1, .fn (.func 73) [] [.ref 0 0, .ref 1 0]), (7, vi (p_s.length : Int)), (8, vi 0)] [.cells [vi b0x0], .cells [vi b1x0]] (by kernel_rfl) (by kernel_rfl) ?_
    refine awp_block ?_
    refine awp_loop (n := fuel) ?_
    refine awpN_ind (fun n (c2 : Int) => F79L1 p_s b0x0 b1x0 n c2) o1 (fun (c2 : Int) => [(0, .d (L3 p_s)), (1, .fn (.func 73) [] [.ref 0 0, .ref 1 0]), (7, vi (p_s.length : Int)), (8, vi c2)]) (fun (c2 : Int) => [.cells [vi b0x0], .cells [vi b1x0]]) (fun _ => rfl) ?_ fuel 0 h
    clear h
    intro n3 c2 h hrn3
    change F79L1 p_s b0x0 b1x0 (n3 + 1) c2 = some o1 at h
    rw [F79L1] at h
    refine awp_sreg tt_ok (ks := [0, 1, 7, 8, 9]) (hs := []) [(0, .d (L3 p_s)), (1, .fn (.func 73) [] [.ref 0 0, .ref 1 0]), (7, vi (p_s.length : Int)), (8, vi c2), (9, vb (decide (c2 < (p_s.length : Int))))] [.cells [vi b0x0], .cells [vi b1x0]] [] (by kernel_rfl) trivial ?_
    refine awp_seq ?_
    refine awp_cond (b := (decide (c2 < (p_s.length : Int)))) (by kernel_rfl) (fun hb4 => ?_) (fun hb4 => ?_)
    · rw [if_pos hb4] at h
      refine awp_skip ?_
      show awp _ _ _ _ _ _ _ _
      refine awp_seq ?_
      refine awp_block ?_
      refine awp_sreg tt_ok (ks := [0, 1, 5, 7, 8]) (hs := []) [(0, .d (L3 p_s)), (1, .fn (.func 73) [] [.ref 0 0, .ref 1 0]), (5, vi c2), (7, vi (p_s.length : Int)), (8, vi c2)] [.cells [vi b0x0], .cells [vi b1x0]] [] (by kernel_rfl) trivial ?_
      obtain ⟨x5, hx5, h⟩ := Option.bind_eq_some_iff.1 h
      obtain ⟨x6, hx6, h⟩ := Option.bind_eq_some_iff.1 h
      refine awp_sreg tt_ok (ks := [0, 1, 5, 7, 8, 16]) (hs := [.no, .no, .no, .cells (cel3 x5), .no, .hcall [(0, false), (1, false)] (vb x6) [.cells [vi b0x0], .cells [vi b1x0]]]) [(0, .d (L3 p_s)), (1, .fn (.func 73) [] [.ref 0 0, .ref 1 0]), (5, vi c2), (7, vi (p_s.length : Int)), (8, vi c2), (16, vb x6)] [.cells [vi b0x0], .cells [vi b1x0]] [IX3 p_s c2 x5, HCall Try.prog 73 [vi x5, .ref 0 0, .ref 1 0] [.cells [vi b0x0], .cells [vi b1x0]] (vb x6) [.cells [vi b0x0], .cells [vi b1x0]]] (by kernel_rfl) (And.intro (idxOk cel3_len hx5) (ct73 hx6)) ?_
      refine awp_cond (b := x6) (by kernel_rfl) (fun hb7 => ?_) (fun hb7 => ?_)
      · rw [if_pos hb7] at h
        refine awp_sreg tt_ok (ks := [4]) (hs := []) [(4, vi c2)] [.cells [vi b0x0], .cells [vi b1x0]] [] (by kernel_rfl) trivial ?_
        obtain rfl := Option.some.inj h
        refine awp_wk 2 [4] (by kernel_rfl) [(4, vi c2)] [.cells [vi b0x0], .cells [vi b1x0]] (by kernel_rfl) (by kernel_rfl) ?_
        exact awp_ret (Sel.mk [0, 1] [4] (by kernel_rfl) (by kernel_rfl) (by kernel_rfl) OutQ.ret)
      · rw [if_neg (ntrue hb7)] at h
        refine awp_skip ?_
        show awp _ _ _ _ _ _ _ _
        refine awp_region (T' := [(0, .d (L3 p_s)), (1, .fn (.func 73) [] [.ref 0 0, .ref 1 0]), (7, vi (p_s.length : Int)), (8, vi (w64 (c2 + 1)))]) (H' := [.cells [vi b0x0], .cells [vi b1x0]]) (ps := []) tt_ok (ks := [0, 1, 7, 8]) (hs := []) (by kernel_rfl) trivial ?_
        exact awpN_wk 2 [0, 1, 7, 8] (by kernel_rfl) _ _ (by kernel_rfl) (by kernel_rfl) (hrn3 (w64 (c2 + 1)) h)
    · rw [if_neg (ntrue hb4)] at h
      refine awp_exit ?_
      obtain rfl := Option.some.inj h
      exact Sel.mk [0, 1] [] (by kernel_rfl) (by kernel_rfl) (by kernel_rfl) OutQ.norm
  · intro e T H hq
    cases o1 with
    | inl ro1 =>
      obtain ⟨rfl, rfl, rfl⟩ := hq
      rw [outK_inl] at h
      obtain rfl := Option.some.inj h
      exact (main_retS [0, 1] (vi ro1) (by kernel_rfl) (by kernel_rfl) (by kernel_rfl) (by kernel_rfl))
    | inr so1 =>
      obtain ⟨rfl, rfl, rfl⟩ := hq
      rw [outK_inr] at h
      show awp _ _ _ _ _ _ _ _
      refine awp_sreg tt_ok (ks := [4]) (hs := []) [(4, vi (-1))] [.cells [vi b0x0], .cells [vi b1x0]] [] (by kernel_rfl) trivial ?_
      obtain rfl := Option.some.inj h
      refine awp_wk 2 [4] (by kernel_rfl) [(4, vi (-1))] [.cells [vi b0x0], .cells [vi b1x0]] (by kernel_rfl) (by kernel_rfl) ?_
      exact awp_ret (main_retS [0, 1] (vi (-1)) (by kernel_rfl) (by kernel_rfl) (by kernel_rfl) (by kernel_rfl))

set_option maxRecDepth 100000 in
theorem ct72 {fuel : Nat}  {p_s : (List Int)} {b0x0 : Int} {b1x0 : Int} {res : Bool} (h : F72 fuel p_s b0x0 b1x0 = some res) : HCall Try.prog 72 [.d (L3 p_s), .fn (.func 73) [] [.ref 0 0, .ref 1 0]] [.cells [vi b0x0], .cells [vi b1x0]] (vb res) [.cells [vi b0x0], .cells [vi b1x0]] := by
  refine HCall.of_awpS tt_ok (N := 9) (fl := 2) Try.func72 rfl (by kernel_rfl) rfl rfl (Nat.le_of_ble_eq_true rfl) ?_
  unfold F72 at h
  refine awp_sreg tt_ok (ks := [0, 1]) (hs := []) [(0, .d (L3 p_s)), (1, .fn (.func 73) [] [.ref 0 0, .ref 1 0])] [.cells [vi b0x0], .cells [vi b1x0]] [] (by kernel_rfl) trivial ?_
  obtain ⟨x1, hx1, h⟩ := Option.bind_eq_some_iff.1 h
  refine awp_sreg tt_ok (ks := [4]) (hs := [.no, .no, .hcall [(0, false), (1, false)] (vi x1) [.cells [vi b0x0], .cells [vi b1x0]]]) [(4, vb (decide (x1 ≥ 0)))] [.cells [vi b0x0], .cells [vi b1x0]] [HCall Try.prog 79 [.d (L3 p_s), .fn (.func 73) [] [.ref 0 0, .ref 1 0]] [.cells [vi b0x0], .cells [vi b1x0]] (vi x1) [.cells [vi b0x0], .cells [vi b1x0]]] (by kernel_rfl) (ct79 hx1) ?_
  obtain rfl := Option.some.inj h
  refine awp_wk 2 [4] (by kernel_rfl) [(4, vb (decide (x1 ≥ 0)))] [.cells [vi b0x0], .cells [vi b1x0]] (by kernel_rfl) (by kernel_rfl) ?_
  exact awp_ret (main_retS [0, 1] (vb (decide (x1 ≥ 0))) (by kernel_rfl) (by kernel_rfl) (by kernel_rfl) (by kernel_rfl))

set_option maxRecDepth 100000 in
theorem ct49 {fuel : Nat}  {lo : Int} {hi : Int} {numbers : (List Int)} {res : Bool} (h : F49 fuel lo hi numbers = some res) : PCall Try.prog 49 [(di lo), (di hi), (L3 numbers)] (vb res) := by
  refine PCall.of_awp tt_ok (N := 10) Try.func49 rfl (by kernel_rfl) rfl (Nat.le_of_ble_eq_true rfl) rfl ?_
  unfold F49 at h
  refine awp_sreg tt_ok (ks := [2, 3, 4]) (hs := []) [(2, .d (L3 numbers)), (3, .ref 0 0), (4, .ref 1 0)] [.cells [vi lo], .cells [vi hi]] [] (by kernel_rfl) trivial ?_
  obtain ⟨x1, hx1, h⟩ := Option.bind_eq_some_iff.1 h
  refine awp_sreg tt_ok (ks := [6]) (hs := [.no, .no, .hcall [(0, false), (1, false)] (vb x1) [.cells [vi lo], .cells [vi hi]]]) [(6, vb x1)] [.cells [vi lo], .cells [vi hi]] [HCall Try.prog 72 [.d (L3 numbers), .fn (.func 73) [] [.ref 0 0, .ref 1 0]] [.cells [vi lo], .cells [vi hi]] (vb x1) [.cells [vi lo], .cells [vi hi]]] (by kernel_rfl) (ct72 hx1) ?_
  obtain rfl := Option.some.inj h
  refine awp_wk 2 [6] (by kernel_rfl) [(6, vb x1)] [.cells [vi lo], .cells [vi hi]] (by kernel_rfl) (by kernel_rfl) ?_
  exact awp_ret (main_ret (by kernel_rfl))

set_option maxRecDepth 100000 in
theorem ct16 {fuel : Nat}  {p_r : S_api_CvRow} {res : Int × Int × Int} (h : F16 fuel p_r = some res) : PCall Try.prog 16 [(.agg [(di p_r.Steep), (L58 p_r.Points)])] (.tup [vi res.1, vi res.2.1, vi res.2.2]) := by
  refine PCall.of_awp tt_ok (N := 48) Try.func16 rfl (by kernel_rfl) rfl (Nat.le_of_ble_eq_true rfl) rfl ?_
  unfold F16 at h
  refine awp_sreg tt_ok (ks := [1]) (hs := []) [(1, .ref 0 0)] [.cells [vi p_r.Steep, .d (L58 p_r.Points)]] [] (by kernel_rfl) trivial ?_
  refine awp_seq ?_
  refine awp_block ?_
  obtain ⟨x1, hx1, h⟩ := Option.bind_eq_some_iff.1 h
  refine awp_sreg tt_ok (ks := [1, 7]) (hs := [.no, .no, .no, .call [(di 0), (di 200), (L3 ([p_r.Steep] : List Int))] (vb x1)]) [(1, .ref 0 0), (7, vb x1)] [.cells [vi p_r.Steep, .d (L58 p_r.Points)]] [PCall Try.prog 49 [(di 0), (di 200), (L3 ([p_r.Steep] : List Int))] (vb x1)] (by kernel_rfl) (ct49 hx1) ?_
  refine awp_cond (b := x1) (by kernel_rfl) (fun hb2 => ?_) (fun hb2 => ?_)
  · rw [if_pos hb2] at h
    refine awp_sreg tt_ok (ks := [2, 3, 4]) (hs := []) [(2, vi 1), (3, vi 0), (4, vi 7)] [.cells [vi p_r.Steep, .d (L58 p_r.Points)]] [] (by kernel_rfl) trivial ?_
    obtain rfl := Option.some.inj h
    refine awp_wk 1 [2, 3, 4] (by kernel_rfl) [(2, vi 1), (3, vi 0), (4, vi 7)] [.cells [vi p_r.Steep, .d (L58 p_r.Points)]] (by kernel_rfl) (by kernel_rfl) ?_
    exact awp_ret (main_ret (by kernel_rfl))
  · rw [if_neg (ntrue hb2)] at h
    obtain ⟨x3, hx3, h⟩ := Option.bind_eq_some_iff.1 h
    refine awp_sreg tt_ok (ks := [1, 12]) (hs := [.no, .no, .no, .no, .call [(di 1), (di 10), (L3 ([(p_r.Points.length : Int)] : List Int))] (vb x3)]) [(1, .ref 0 0), (12, vb x3)] [.cells [vi p_r.Steep, .d (L58 p_r.Points)]] [PCall Try.prog 49 [(di 1), (di 10), (L3 ([(p_r.Points.length : Int)] : List Int))] (vb x3)] (by kernel_rfl) (ct49 hx3) ?_
    refine awp_cond (b := x3) (by kernel_rfl) (fun hb4 => ?_) (fun hb4 => ?_)
    · rw [if_pos hb4] at h
      refine awp_sreg tt_ok (ks := [2, 3, 4]) (hs := []) [(2, vi 1), (3, vi 0), (4, vi 3)] [.cells [vi p_r.Steep, .d (L58 p_r.Points)]] [] (by kernel_rfl) trivial ?_
      obtain rfl := Option.some.inj h
      refine awp_wk 1 [2, 3, 4] (by kernel_rfl) [(2, vi 1), (3, vi 0), (4, vi 3)] [.cells [vi p_r.Steep, .d (L58 p_r.Points)]] (by kernel_rfl) (by kernel_rfl) ?_
      exact awp_ret (main_ret (by kernel_rfl))
    · rw [if_neg (ntrue hb4)] at h
      refine awp_skip ?_
      show awp _ _ _ _ _ _ _ _
      refine awp_seq ?_
      refine awp_sreg tt_ok (ks := [19, 20, 21]) (hs := []) [(19, .d (L58 p_r.Points)), (20, vi (p_r.Points.length : Int)), (21, vi 0)] [.cells [vi p_r.Steep, .d (L58 p_r.Points)]] [] (by kernel_rfl) trivial ?_
      obtain ⟨o5, ho5, h⟩ := Option.bind_eq_some_iff.1 h
      refine awp_cut1 (OutQ (fun (ro5 : Int × Int × Int) => [(2, vi ro5.1), (3, vi ro5.2.1), (4, vi ro5.2.2)]) (fun (ro5 : Int × Int × Int) => []) (fun (so5 : Unit) => []) (fun (so5 : Unit) => [.cells [vi p_r.Steep, .d (L58 p_r.Points)]]) o5) ?_ ?_
      · clear h
        have h := ho5
        clear ho5
        refine awp_selQ ?_
        refine awp_wk 1 [19, 20, 21] (by kernel_rfl) [(19, .d (L58 p_r.Points)), (20, vi (p_r.Points.length : Int)), (21, vi 0)] [.cells [vi p_r.Steep, .d (L58 p_r.Points)]] (by kernel_rfl) (by kernel_rfl) ?_
        refine awp_block ?_
        refine awp_loop (n := fuel) ?_
        refine awpN_ind (fun n (c6 : Int) => F16L1 fuel p_r n c6) o5 (fun (c6 : Int) => [(19, .d (L58 p_r.Points)), (20, vi (p_r.Points.length : Int)), (21, vi c6)]) (fun (c6 : Int) => [.cells [vi p_r.Steep, .d (L58 p_r.Points)]]) (fun _ => rfl) ?_ fuel 0 h
        clear h
        intro n7 c6 h hrn7
        change F16L1 fuel p_r (n7 + 1) c6 = some o5 at h
        rw [F16L1] at h
        refine awp_sreg tt_ok (ks := [19, 20, 21, 22]) (hs := []) [(19, .d (L58 p_r.Points)), (20, vi (p_r.Points.length : Int)), (21, vi c6), (22, vb (decide (c6 < (p_r.Points.length : Int))))] [.cells [vi p_r.Steep, .d (L58 p_r.Points)]] [] (by kernel_rfl) trivial ?_
        refine awp_seq ?_
        refine awp_cond (b := (decide (c6 < (p_r.Points.length : Int)))) (by kernel_rfl) (fun hb8 => ?_) (fun hb8 => ?_)
        · rw [if_pos hb8] at h
          refine awp_skip ?_
          show awp _ _ _ _ _ _ _ _
          refine awp_seq ?_
          refine awp_block ?_
          obtain ⟨x9, hx9, h⟩ := Option.bind_eq_some_iff.1 h
          refine awp_sreg tt_ok (ks := [5, 6, 19, 20, 21]) (hs := [.no, .cells (cel58 x9)]) [(5, vi c6), (6, .ref 1 0), (19, .d (L58 p_r.Points)), (20, vi (p_r.Points.length : Int)), (21, vi c6)] [.cells [vi p_r.Steep, .d (L58 p_r.Points)], .cells [vi x9.Board, vi x9.Lo, vi x9.Hi]] [IX58 p_r.Points c6 x9] (by kernel_rfl) (idxOk cel58_len hx9) ?_
          refine awp_block ?_
          obtain ⟨x10, hx10, h⟩ := Option.bind_eq_some_iff.1 h
          refine awp_sreg tt_ok (ks := [5, 6, 19, 20, 21, 26]) (hs := [.no, .no, .no, .no, .no, .no, .no, .call [(di 0), (di 9000), (L3 ([x9.Board, x9.Lo, x9.Hi] : List Int))] (vb x10)]) [(5, vi c6), (6, .ref 1 0), (19, .d (L58 p_r.Points)), (20, vi (p_r.Points.length : Int)), (21, vi c6), (26, vb x10)] [.cells [vi p_r.Steep, .d (L58 p_r.Points)], .cells [vi x9.Board, vi x9.Lo, vi x9.Hi]] [PCall Try.prog 49 [(di 0), (di 9000), (L3 ([x9.Board, x9.Lo, x9.Hi] : List Int))] (vb x10)] (by kernel_rfl) (ct49 hx10) ?_
          refine awp_cond (b := x10) (by kernel_rfl) (fun hb11 => ?_) (fun hb11 => ?_)
          · rw [if_pos hb11] at h
            refine awp_sreg tt_ok (ks := [2, 3, 4]) (hs := []) [(2, vi 2), (3, vi c6), (4, vi 7)] [.cells [vi p_r.Steep, .d (L58 p_r.Points)], .cells [vi x9.Board, vi x9.Lo, vi x9.Hi]] [] (by kernel_rfl) trivial ?_
            obtain rfl := Option.some.inj h
            refine awp_wk 2 [2, 3, 4] (by kernel_rfl) [(2, vi 2), (3, vi c6), (4, vi 7)] [.cells [vi p_r.Steep, .d (L58 p_r.Points)], .cells [vi x9.Board, vi x9.Lo, vi x9.Hi]] (by kernel_rfl) (by kernel_rfl) ?_
            exact awp_ret (Sel.mk [] [2, 3, 4] (by kernel_rfl) (by kernel_rfl) (by kernel_rfl) OutQ.ret)
          · rw [if_neg (ntrue hb11)] at h
            obtain ⟨x12, hx12, h⟩ := Option.bind_eq_some_iff.1 h
            refine awp_sreg tt_ok (ks := [5, 19, 20, 21, 36]) (hs := [.no, .no, .no, .no, .no, .no, .no, .no, .call [(di x9.Lo), (di (w64 (x9.Lo + 30))), (L3 ([x9.Hi] : List Int))] (vb x12)]) [(5, vi c6), (19, .d (L58 p_r.Points)), (20, vi (p_r.Points.length : Int)), (21, vi c6), (36, vb x12)] [.cells [vi p_r.Steep, .d (L58 p_r.Points)], .cells [vi x9.Board, vi x9.Lo, vi x9.Hi]] [PCall Try.prog 49 [(di x9.Lo), (di (w64 (x9.Lo + 30))), (L3 ([x9.Hi] : List Int))] (vb x12)] (by kernel_rfl) (ct49 hx12) ?_
            refine awp_cond (b := x12) (by kernel_rfl) (fun hb13 => ?_) (fun hb13 => ?_)
            · rw [if_pos hb13] at h
              refine awp_sreg tt_ok (ks := [2, 3, 4]) (hs := []) [(2, vi 2), (3, vi c6), (4, vi 2)] [.cells [vi p_r.Steep, .d (L58 p_r.Points)], .cells [vi x9.Board, vi x9.Lo, vi x9.Hi]] [] (by kernel_rfl) trivial ?_
              obtain rfl := Option.some.inj h
              refine awp_wk 2 [2, 3, 4] (by kernel_rfl) [(2, vi 2), (3, vi c6), (4, vi 2)] [.cells [vi p_r.Steep, .d (L58 p_r.Points)], .cells [vi x9.Board, vi x9.Lo, vi x9.Hi]] (by kernel_rfl) (by kernel_rfl) ?_
              exact awp_ret (Sel.mk [] [2, 3, 4] (by kernel_rfl) (by kernel_rfl) (by kernel_rfl) OutQ.ret)
            · rw [if_neg (ntrue hb13)] at h
              refine awp_skip ?_
              show awp _ _ _ _ _ _ _ _
              refine awp_region (T' := [(19, .d (L58 p_r.Points)), (20, vi (p_r.Points.length : Int)), (21, vi (w64 (c6 + 1)))]) (H' := [.cells [vi p_r.Steep, .d (L58 p_r.Points)], .cells [vi x9.Board, vi x9.Lo, vi x9.Hi]]) (ps := []) tt_ok (ks := [19, 20, 21]) (hs := []) (by kernel_rfl) trivial ?_
              exact awpN_wk 1 [19, 20, 21] (by kernel_rfl) _ _ (by kernel_rfl) (by kernel_rfl) (hrn7 (w64 (c6 + 1)) h)
        · rw [if_neg (ntrue hb8)] at h
          refine awp_exit ?_
          obtain rfl := Option.some.inj h
          exact Sel.mk [0] [] (by kernel_rfl) (by kernel_rfl) (by kernel_rfl) OutQ.norm
      · intro e T H hq
        cases o5 with
        | inl ro5 =>
          obtain ⟨rfl, rfl, rfl⟩ := hq
          rw [outK_inl] at h
          obtain rfl := Option.some.inj h
          exact main_ret (by kernel_rfl)
        | inr so5 =>
          obtain ⟨rfl, rfl, rfl⟩ := hq
          rw [outK_inr] at h
          show awp _ _ _ _ _ _ _ _
          refine awp_sreg tt_ok (ks := [2, 3, 4]) (hs := []) [(2, vi 0), (3, vi 0), (4, vi 0)] [.cells [vi p_r.Steep, .d (L58 p_r.Points)]] [] (by kernel_rfl) trivial ?_
          obtain rfl := Option.some.inj h
          refine awp_wk 1 [2, 3, 4] (by kernel_rfl) [(2, vi 0), (3, vi 0), (4, vi 0)] [.cells [vi p_r.Steep, .d (L58 p_r.Points)]] (by kernel_rfl) (by kernel_rfl) ?_
          exact awp_ret (main_ret (by kernel_rfl))

set_option maxRecDepth 100000 in
theorem ct59 {fuel : Nat}  {p_r : S_api_CvRow} {surface : (List Int)} {res : S_carve_row × Int} (h : F59 fuel p_r surface = some res) : PCall Try.prog 59 [(.agg [(di p_r.Steep), (L58 p_r.Points)]), (L3 surface)] (.tup [.d (.agg [(di res.1.CvRow.Steep), (L58 res.1.CvRow.Points)]), vi res.2]) := by
  refine PCall.of_awp tt_ok (N := 30) Try.func59 rfl (by kernel_rfl) rfl (Nat.le_of_ble_eq_true rfl) rfl ?_
  unfold F59 at h
  refine awp_sreg tt_ok (ks := [1, 2, 4]) (hs := []) [(1, .d (L3 surface)), (2, .ref 0 0), (4, .ref 1 0)] [.cells [vi p_r.Steep, .d (L58 p_r.Points)], .cells [vi 0, .d dnil]] [] (by kernel_rfl) trivial ?_
  refine awp_seq ?_
  obtain ⟨x1, hx1, h⟩ := Option.bind_eq_some_iff.1 h
  refine awp_sreg tt_ok (ks := [1, 2, 4, 5]) (hs := [.no, .call [(.agg [(di p_r.Steep), (L58 p_r.Points)])] (.tup [vi x1.1, vi x1.2.1, vi x1.2.2])]) [(1, .d (L3 surface)), (2, .ref 0 0), (4, .ref 1 0), (5, vi x1.2.2)] [.cells [vi p_r.Steep, .d (L58 p_r.Points)], .cells [vi 0, .d dnil]] [PCall Try.prog 16 [(.agg [(di p_r.Steep), (L58 p_r.Points)])] (.tup [vi x1.1, vi x1.2.1, vi x1.2.2])] (by kernel_rfl) (ct16 hx1) ?_
  refine awp_sreg tt_ok (ks := [1, 2, 4, 5, 13]) (hs := []) [(1, .d (L3 surface)), (2, .ref 0 0), (4, .ref 1 0), (5, vi x1.2.2), (13, vb (x1.2.2 != 0))] [.cells [vi p_r.Steep, .d (L58 p_r.Points)], .cells [vi 0, .d dnil]] [] (by kernel_rfl) trivial ?_
  refine awp_cond (b := (x1.2.2 != 0)) (by kernel_rfl) (fun hb2 => ?_) (fun hb2 => ?_)
  · rw [if_pos hb2] at h
    refine awp_sreg tt_ok (ks := [4, 5]) (hs := []) [(4, .ref 1 0), (5, vi x1.2.2)] [.cells [vi p_r.Steep, .d (L58 p_r.Points)], .cells [vi 0, .d dnil]] [] (by kernel_rfl) trivial ?_
    obtain rfl := Option.some.inj h
    refine awp_wk 2 [4, 5] (by kernel_rfl) [(4, .ref 1 0), (5, vi x1.2.2)] [.cells [vi p_r.Steep, .d (L58 p_r.Points)], .cells [vi 0, .d dnil]] (by kernel_rfl) (by kernel_rfl) ?_
    refine awp_laxC 1 1 _ (L58 ([] : List S_api_CvPoint)) [vi 0, .d dnil] _ (by kernel_rfl) (by kernel_rfl) (.nil (e := 3)) rfl ?_
    refine awp_wk 2 [4, 5] (by kernel_rfl) [(4, .ref 1 0), (5, vi x1.2.2)] [.cells [vi p_r.Steep, .d (L58 p_r.Points)], .cells [vi 0, .d (L58 ([] : List S_api_CvPoint))]] (by kernel_rfl) (by kernel_rfl) ?_
    exact awp_ret (main_ret (by kernel_rfl))
  · rw [if_neg (ntrue hb2)] at h
    refine awp_skip ?_
    show awp _ _ _ _ _ _ _ _
    refine awp_seq ?_
    refine awp_block ?_
    refine awp_sreg tt_ok (ks := [1, 2, 4, 16]) (hs := []) [(1, .d (L3 surface)), (2, .ref 0 0), (4, .ref 1 0), (16, vb ((surface.length : Int) != (p_r.Points.length : Int)))] [.cells [vi p_r.Steep, .d (L58 p_r.Points)], .cells [vi 0, .d dnil]] [] (by kernel_rfl) trivial ?_
    refine awp_cond (b := ((surface.length : Int) != (p_r.Points.length : Int))) (by kernel_rfl) (fun hb3 => ?_) (fun hb3 => ?_)
    · rw [if_pos hb3] at h
      refine awp_sreg tt_ok (ks := [4, 5]) (hs := []) [(4, .ref 1 0), (5, vi 3)] [.cells [vi p_r.Steep, .d (L58 p_r.Points)], .cells [vi 0, .d dnil]] [] (by kernel_rfl) trivial ?_
      obtain rfl := Option.some.inj h
      refine awp_wk 2 [4, 5] (by kernel_rfl) [(4, .ref 1 0), (5, vi 3)] [.cells [vi p_r.Steep, .d (L58 p_r.Points)], .cells [vi 0, .d dnil]] (by kernel_rfl) (by kernel_rfl) ?_
      refine awp_laxC 1 1 _ (L58 ([] : List S_api_CvPoint)) [vi 0, .d dnil] _ (by kernel_rfl) (by kernel_rfl) (.nil (e := 3)) rfl ?_
      refine awp_wk 2 [4, 5] (by kernel_rfl) [(4, .ref 1 0), (5, vi 3)] [.cells [vi p_r.Steep, .d (L58 p_r.Points)], .cells [vi 0, .d (L58 ([] : List S_api_CvPoint))]] (by kernel_rfl) (by kernel_rfl) ?_
      exact awp_ret (main_ret (by kernel_rfl))
    · rw [if_neg (ntrue hb3)] at h
      obtain ⟨x4, hx4, h⟩ := Option.bind_eq_some_iff.1 h
      refine awp_sreg tt_ok (ks := [2, 4, 24]) (hs := [.no, .call [(di 0), (di 9000), (L3 surface)] (vb x4)]) [(2, .ref 0 0), (4, .ref 1 0), (24, vb x4)] [.cells [vi p_r.Steep, .d (L58 p_r.Points)], .cells [vi 0, .d dnil]] [PCall Try.prog 49 [(di 0), (di 9000), (L3 surface)] (vb x4)] (by kernel_rfl) (ct49 hx4) ?_
      refine awp_cond (b := x4) (by kernel_rfl) (fun hb5 => ?_) (fun hb5 => ?_)
      · rw [if_pos hb5] at h
        refine awp_sreg tt_ok (ks := [4, 5]) (hs := []) [(4, .ref 1 0), (5, vi 7)] [.cells [vi p_r.Steep, .d (L58 p_r.Points)], .cells [vi 0, .d dnil]] [] (by kernel_rfl) trivial ?_
        obtain rfl := Option.some.inj h
        refine awp_wk 2 [4, 5] (by kernel_rfl) [(4, .ref 1 0), (5, vi 7)] [.cells [vi p_r.Steep, .d (L58 p_r.Points)], .cells [vi 0, .d dnil]] (by kernel_rfl) (by kernel_rfl) ?_
        refine awp_laxC 1 1 _ (L58 ([] : List S_api_CvPoint)) [vi 0, .d dnil] _ (by kernel_rfl) (by kernel_rfl) (.nil (e := 3)) rfl ?_
        refine awp_wk 2 [4, 5] (by kernel_rfl) [(4, .ref 1 0), (5, vi 7)] [.cells [vi p_r.Steep, .d (L58 p_r.Points)], .cells [vi 0, .d (L58 ([] : List S_api_CvPoint))]] (by kernel_rfl) (by kernel_rfl) ?_
        exact awp_ret (main_ret (by kernel_rfl))
      · rw [if_neg (ntrue hb5)] at h
        refine awp_skip ?_
        show awp _ _ _ _ _ _ _ _
        refine awp_sreg tt_ok (ks := [4, 5]) (hs := []) [(4, .ref 1 0), (5, vi 0)] [.cells [vi p_r.Steep, .d (L58 p_r.Points)], .cells [vi p_r.Steep, .d (L58 p_r.Points)]] [] (by kernel_rfl) trivial ?_
        obtain rfl := Option.some.inj h
        refine awp_wk 2 [4, 5] (by kernel_rfl) [(4, .ref 1 0), (5, vi 0)] [.cells [vi p_r.Steep, .d (L58 p_r.Points)], .cells [vi p_r.Steep, .d (L58 p_r.Points)]] (by kernel_rfl) (by kernel_rfl) ?_
        exact awp_ret (main_ret (by kernel_rfl))

set_option maxRecDepth 100000 in
theorem ct26 {fuel : Nat}  {p_r : S_api_CvRow} {surface : (List Int)} {res : Int × Int × Int} (h : F26 fuel p_r surface = some res) : PCall Try.prog 26 [(.agg [(di p_r.Steep), (L58 p_r.Points)]), (L3 surface)] (.tup [vi res.1, vi res.2.1, vi res.2.2]) := by
  refine PCall.of_awp tt_ok (N := 67) Try.func26 rfl (by kernel_rfl) rfl (Nat.le_of_ble_eq_true rfl) rfl ?_
  unfold F26 at h
  refine awp_sreg tt_ok (ks := [1, 2]) (hs := []) [(1, .d (L3 surface)), (2, .ref 0 0)] [.cells [vi p_r.Steep, .d (L58 p_r.Points)]] [] (by kernel_rfl) trivial ?_
  obtain ⟨x1, hx1, h⟩ := Option.bind_eq_some_iff.1 h
  refine awp_sreg tt_ok (ks := [1, 2, 6, 7]) (hs := [.no, .no, .call [(.agg [(di p_r.Steep), (L58 p_r.Points)]), (L3 surface)] (.tup [.d (.agg [(di x1.1.CvRow.Steep), (L58 x1.1.CvRow.Points)]), vi x1.2])]) [(1, .d (L3 surface)), (2, .ref 0 0), (6, vi x1.2), (7, .ref 1 0)] [.cells [vi p_r.Steep, .d (L58 p_r.Points)], .cells [vi x1.1.CvRow.Steep, .d (L58 x1.1.CvRow.Points)]] [PCall Try.prog 59 [(.agg [(di p_r.Steep), (L58 p_r.Points)]), (L3 surface)] (.tup [.d (.agg [(di x1.1.CvRow.Steep), (L58 x1.1.CvRow.Points)]), vi x1.2])] (by kernel_rfl) (ct59 hx1) ?_
  refine awp_seq ?_
  refine awp_sreg tt_ok (ks := [1, 2, 6, 7, 18]) (hs := []) [(1, .d (L3 surface)), (2, .ref 0 0), (6, vi x1.2), (7, .ref 1 0), (18, vb (x1.2 != 0))] [.cells [vi p_r.Steep, .d (L58 p_r.Points)], .cells [vi x1.1.CvRow.Steep, .d (L58 x1.1.CvRow.Points)]] [] (by kernel_rfl) trivial ?_
  refine awp_cond (b := (x1.2 != 0)) (by kernel_rfl) (fun hb2 => ?_) (fun hb2 => ?_)
  · rw [if_pos hb2] at h
    refine awp_sreg tt_ok (ks := [4, 5, 6]) (hs := []) [(4, vi 0), (5, vi 0), (6, vi x1.2)] [.cells [vi p_r.Steep, .d (L58 p_r.Points)], .cells [vi x1.1.CvRow.Steep, .d (L58 x1.1.CvRow.Points)]] [] (by kernel_rfl) trivial ?_
    obtain rfl := Option.some.inj h
    refine awp_wk 2 [4, 5, 6] (by kernel_rfl) [(4, vi 0), (5, vi 0), (6, vi x1.2)] [.cells [vi p_r.Steep, .d (L58 p_r.Points)], .cells [vi x1.1.CvRow.Steep, .d (L58 x1.1.CvRow.Points)]] (by kernel_rfl) (by kernel_rfl) ?_
    exact awp_ret (main_ret (by kernel_rfl))
  · rw [if_neg (ntrue hb2)] at h
    refine awp_skip ?_
    show awp _ _ _ _ _ _ _ _
    refine awp_seq ?_
    refine awp_sreg tt_ok (ks := [1, 2, 22, 23, 24]) (hs := []) [(1, .d (L3 surface)), (2, .ref 0 0), (22, .d (L58 x1.1.CvRow.Points)), (23, vi (x1.1.CvRow.Points.length : Int)), (24, vi 0)] [.cells [vi p_r.Steep, .d (L58 p_r.Points)], .cells [vi x1.1.CvRow.Steep, .d (L58 x1.1.CvRow.Points)]] [] (by kernel_rfl) trivial ?_
    obtain ⟨o3, ho3, h⟩ := Option.bind_eq_some_iff.1 h
    refine awp_cut1 (OutQ (fun (ro3 : Int × Int × Int) => [(4, vi ro3.1), (5, vi ro3.2.1), (6, vi ro3.2.2)]) (fun (ro3 : Int × Int × Int) => []) (fun (so3 : Unit) => []) (fun (so3 : Unit) => [.cells [vi p_r.Steep, .d (L58 p_r.Points)], .cells [vi x1.1.CvRow.Steep, .d (L58 x1.1.CvRow.Points)]]) o3) ?_ ?_
    · clear h
      have h := ho3
      clear ho3
      refine awp_selQ ?_
      refine awp_wk 2 [1, 2, 22, 23, 24] (by kernel_rfl) [(1, .d (L3 surface)), (2, .ref 0 0), (22, .d (L58 x1.1.CvRow.Points)), (23, vi (x1.1.CvRow.Points.length : Int)), (24, vi 0)] [.cells [vi p_r.Steep, .d (L58 p_r.Points)], .cells [vi x1.1.CvRow.Steep, .d (L58 x1.1.CvRow.Points)]] (by kernel_rfl) (by kernel_rfl) ?_
      refine awp_block ?_
      refine awp_loop (n := fuel) ?_
      refine awpN_ind (fun n (c4 : Int) => F26L1 fuel p_r surface x1 n c4) o3 (fun (c4 : Int) => [(1, .d (L3 surface)), (2, .ref 0 0), (22, .d (L58 x1.1.CvRow.Points)), (23, vi (x1.1.CvRow.Points.length : Int)), (24, vi c4)]) (fun (c4 : Int) => [.cells [vi p_r.Steep, .d (L58 p_r.Points)], .cells [vi x1.1.CvRow.Steep, .d (L58 x1.1.CvRow.Points)]]) (fun _ => rfl) ?_ fuel 0 h
      clear h
      intro n5 c4 h hrn5
      change F26L1 fuel p_r surface x1 (n5 + 1) c4 = some o3 at h
      rw [F26L1] at h
      refine awp_sreg tt_ok (ks := [1, 2, 22, 23, 24, 25]) (hs := []) [(1, .d (L3 surface)), (2, .ref 0 0), (22, .d (L58 x1.1.CvRow.Points)), (23, vi (x1.1.CvRow.Points.length : Int)), (24, vi c4), (25, vb (decide (c4 < (x1.1.CvRow.Points.length : Int))))] [.cells [vi p_r.Steep, .d (L58 p_r.Points)], .cells [vi x1.1.CvRow.Steep, .d (L58 x1.1.CvRow.Points)]] [] (by kernel_rfl) trivial ?_
      refine awp_seq ?_
      refine awp_cond (b := (decide (c4 < (x1.1.CvRow.Points.length : Int)))) (by kernel_rfl) (fun hb6 => ?_) (fun hb6 => ?_)
      · rw [if_pos hb6] at h
        refine awp_skip ?_
        show awp _ _ _ _ _ _ _ _
        refine awp_seq ?_
        refine awp_block ?_
        obtain ⟨x7, hx7, h⟩ := Option.bind_eq_some_iff.1 h
        refine awp_sreg tt_ok (ks := [1, 2, 8, 9, 22, 23, 24]) (hs := [.no, .cells (cel58 x7)]) [(1, .d (L3 surface)), (2, .ref 0 0), (8, vi c4), (9, .ref 2 0), (22, .d (L58 x1.1.CvRow.Points)), (23, vi (x1.1.CvRow.Points.length : Int)), (24, vi c4)] [.cells [vi p_r.Steep, .d (L58 p_r.Points)], .cells [vi x1.1.CvRow.Steep, .d (L58 x1.1.CvRow.Points)], .cells [vi x7.Board, vi x7.Lo, vi x7.Hi]] [IX58 x1.1.CvRow.Points c4 x7] (by kernel_rfl) (idxOk cel58_len hx7) ?_
        obtain ⟨x8, hx8, h⟩ := Option.bind_eq_some_iff.1 h
        refine awp_sreg tt_ok (ks := [1, 2, 8, 9, 10, 22, 23, 24]) (hs := [.no, .no, .cells (cel3 x8)]) [(1, .d (L3 surface)), (2, .ref 0 0), (8, vi c4), (9, .ref 2 0), (10, vi x8), (22, .d (L58 x1.1.CvRow.Points)), (23, vi (x1.1.CvRow.Points.length : Int)), (24, vi c4)] [.cells [vi p_r.Steep, .d (L58 p_r.Points)], .cells [vi x1.1.CvRow.Steep, .d (L58 x1.1.CvRow.Points)], .cells [vi x7.Board, vi x7.Lo, vi x7.Hi]] [IX3 surface c4 x8] (by kernel_rfl) (idxOk cel3_len hx8) ?_
        refine awp_block ?_
        refine awp_sreg tt_ok (ks := [1, 2, 8, 9, 10, 22, 23, 24, 33]) (hs := []) [(1, .d (L3 surface)), (2, .ref 0 0), (8, vi c4), (9, .ref 2 0), (10, vi x8), (22, .d (L58 x1.1.CvRow.Points)), (23, vi (x1.1.CvRow.Points.length : Int)), (24, vi c4), (33, vb (decide (x8 < x7.Lo)))] [.cells [vi p_r.Steep, .d (L58 p_r.Points)], .cells [vi x1.1.CvRow.Steep, .d (L58 x1.1.CvRow.Points)], .cells [vi x7.Board, vi x7.Lo, vi x7.Hi]] [] (by kernel_rfl) trivial ?_
        refine awp_cond (b := (decide (x8 < x7.Lo))) (by kernel_rfl) (fun hb9 => ?_) (fun hb9 => ?_)
        · rw [if_pos hb9] at h
          refine awp_sreg tt_ok (ks := [4, 5, 6]) (hs := []) [(4, vi c4), (5, vi 1), (6, vi 0)] [.cells [vi p_r.Steep, .d (L58 p_r.Points)], .cells [vi x1.1.CvRow.Steep, .d (L58 x1.1.CvRow.Points)], .cells [vi x7.Board, vi x7.Lo, vi x7.Hi]] [] (by kernel_rfl) trivial ?_
          obtain rfl := Option.some.inj h
          refine awp_wk 3 [4, 5, 6] (by kernel_rfl) [(4, vi c4), (5, vi 1), (6, vi 0)] [.cells [vi p_r.Steep, .d (L58 p_r.Points)], .cells [vi x1.1.CvRow.Steep, .d (L58 x1.1.CvRow.Points)], .cells [vi x7.Board, vi x7.Lo, vi x7.Hi]] (by kernel_rfl) (by kernel_rfl) ?_
          exact awp_ret (Sel.mk [] [4, 5, 6] (by kernel_rfl) (by kernel_rfl) (by kernel_rfl) OutQ.ret)
        · rw [if_neg (ntrue hb9)] at h
          refine awp_sreg tt_ok (ks := [1, 2, 8, 10, 22, 23, 24, 39]) (hs := []) [(1, .d (L3 surface)), (2, .ref 0 0), (8, vi c4), (10, vi x8), (22, .d (L58 x1.1.CvRow.Points)), (23, vi (x1.1.CvRow.Points.length : Int)), (24, vi c4), (39, vb (decide (x8 > x7.Hi)))] [.cells [vi p_r.Steep, .d (L58 p_r.Points)], .cells [vi x1.1.CvRow.Steep, .d (L58 x1.1.CvRow.Points)], .cells [vi x7.Board, vi x7.Lo, vi x7.Hi]] [] (by kernel_rfl) trivial ?_
          refine awp_cond (b := (decide (x8 > x7.Hi))) (by kernel_rfl) (fun hb10 => ?_) (fun hb10 => ?_)
          · rw [if_pos hb10] at h
            refine awp_sreg tt_ok (ks := [4, 5, 6]) (hs := []) [(4, vi c4), (5, vi 2), (6, vi 0)] [.cells [vi p_r.Steep, .d (L58 p_r.Points)], .cells [vi x1.1.CvRow.Steep, .d (L58 x1.1.CvRow.Points)], .cells [vi x7.Board, vi x7.Lo, vi x7.Hi]] [] (by kernel_rfl) trivial ?_
            obtain rfl := Option.some.inj h
            refine awp_wk 3 [4, 5, 6] (by kernel_rfl) [(4, vi c4), (5, vi 2), (6, vi 0)] [.cells [vi p_r.Steep, .d (L58 p_r.Points)], .cells [vi x1.1.CvRow.Steep, .d (L58 x1.1.CvRow.Points)], .cells [vi x7.Board, vi x7.Lo, vi x7.Hi]] (by kernel_rfl) (by kernel_rfl) ?_
            exact awp_ret (Sel.mk [] [4, 5, 6] (by kernel_rfl) (by kernel_rfl) (by kernel_rfl) OutQ.ret)
          · rw [if_neg (ntrue hb10)] at h
            obtain ⟨x11, hx11, h⟩ := Option.bind_eq_some_iff.1 h
            obtain ⟨x12, hx12, h⟩ := Option.bind_eq_some_iff.1 h
            refine awp_sdraw tt_ok mixed (ks := [1, 2, 8, 22, 23, 24, 45]) (hs := [.no, .no, .no, .no, .no, .no, .no, .no, .no, .no, .no, .no, .no, .no, .cells (cel3 x11), .no, .no, .call [(di (w64 (x8 - p_r.Steep))), (di (w64 (x8 + p_r.Steep))), (L3 ([x11] : List Int))] (vb x12)]) 17 [1, 2, 8, 22, 23, 24, 45, 48, 52, 56, 62, 63, 64] [(1, .d (L3 surface)), (2, .ref 0 0), (8, vi c4), (22, .d (L58 x1.1.CvRow.Points)), (23, vi (x1.1.CvRow.Points.length : Int)), (24, vi c4), (45, vb (cond (decide (c4 > 0)) x12 false))] [.cells [vi p_r.Steep, .d (L58 p_r.Points)], .cells [vi x1.1.CvRow.Steep, .d (L58 x1.1.CvRow.Points)], .cells [vi x7.Board, vi x7.Lo, vi x7.Hi]] [((decide (c4 > 0)) = true → (decide (c4 > 0)) = true), ((decide (c4 > 0)) = true → (decide (c4 > 0)) = true), ((decide (c4 > 0)) = true → (decide (c4 > 0)) = true), ((decide (c4 > 0)) = true → (decide (c4 > 0)) = true), ((decide (c4 > 0)) = true → (decide (c4 > 0)) = true), ((decide (c4 > 0)) = true → (decide (c4 > 0)) = true), ((decide (c4 > 0)) = true → (decide (c4 > 0)) = true), ((decide (c4 > 0)) = true → (decide (c4 > 0)) = true), ((decide (c4 > 0)) = true → (decide (c4 > 0)) = true), ((decide (c4 > 0)) = true → IX3 surface (w64 (c4 - 1)) x11), ((decide (c4 > 0)) = true → (decide (c4 > 0)) = true), ((decide (c4 > 0)) = true → (decide (c4 > 0)) = true), ((decide (c4 > 0)) = true → (decide (c4 > 0)) = true), ((decide (c4 > 0)) = true → (decide (c4 > 0)) = true), ((decide (c4 > 0)) = true → (decide (c4 > 0)) = true), ((decide (c4 > 0)) = true → PCall Try.prog 49 [(di (w64 (x8 - p_r.Steep))), (di (w64 (x8 + p_r.Steep))), (L3 ([x11] : List Int))] (vb x12)), ((decide (c4 > 0)) = true → (decide (c4 > 0)) = true)] (by kernel_rfl) (And.intro (id) (And.intro (id) (And.intro (id) (And.intro (id) (And.intro (id) (And.intro (id) (And.intro (id) (And.intro (id) (And.intro (id) (And.intro ((fun hg => idxOk cel3_len (optG_of hx11 hg))) (And.intro (id) (And.intro (id) (And.intro (id) (And.intro (id) (And.intro (id) (And.intro ((fun hg => ct49 (optG_of hx12 hg))) (id))))))))))))))))) ?_
            refine awp_cond (b := (cond (decide (c4 > 0)) x12 false)) (by kernel_rfl) (fun hb13 => ?_) (fun hb13 => ?_)
            · rw [if_pos hb13] at h
              refine awp_sreg tt_ok (ks := [4, 5, 6]) (hs := []) [(4, vi c4), (5, vi 3), (6, vi 0)] [.cells [vi p_r.Steep, .d (L58 p_r.Points)], .cells [vi x1.1.CvRow.Steep, .d (L58 x1.1.CvRow.Points)], .cells [vi x7.Board, vi x7.Lo, vi x7.Hi]] [] (by kernel_rfl) trivial ?_
              obtain rfl := Option.some.inj h
              refine awp_wk 3 [4, 5, 6] (by kernel_rfl) [(4, vi c4), (5, vi 3), (6, vi 0)] [.cells [vi p_r.Steep, .d (L58 p_r.Points)], .cells [vi x1.1.CvRow.Steep, .d (L58 x1.1.CvRow.Points)], .cells [vi x7.Board, vi x7.Lo, vi x7.Hi]] (by kernel_rfl) (by kernel_rfl) ?_
              exact awp_ret (Sel.mk [] [4, 5, 6] (by kernel_rfl) (by kernel_rfl) (by kernel_rfl) OutQ.ret)
            · rw [if_neg (ntrue hb13)] at h
              refine awp_skip ?_
              show awp _ _ _ _ _ _ _ _
              refine awp_region (T' := [(1, .d (L3 surface)), (2, .ref 0 0), (22, .d (L58 x1.1.CvRow.Points)), (23, vi (x1.1.CvRow.Points.length : Int)), (24, vi (w64 (c4 + 1)))]) (H' := [.cells [vi p_r.Steep, .d (L58 p_r.Points)], .cells [vi x1.1.CvRow.Steep, .d (L58 x1.1.CvRow.Points)], .cells [vi x7.Board, vi x7.Lo, vi x7.Hi]]) (ps := []) tt_ok (ks := [1, 2, 22, 23, 24]) (hs := []) (by kernel_rfl) trivial ?_
              exact awpN_wk 2 [1, 2, 22, 23, 24] (by kernel_rfl) _ _ (by kernel_rfl) (by kernel_rfl) (hrn5 (w64 (c4 + 1)) h)
      · rw [if_neg (ntrue hb6)] at h
        refine awp_exit ?_
        obtain rfl := Option.some.inj h
        exact Sel.mk [0, 1] [] (by kernel_rfl) (by kernel_rfl) (by kernel_rfl) OutQ.norm
    · intro e T H hq
      cases o3 with
      | inl ro3 =>
        obtain ⟨rfl, rfl, rfl⟩ := hq
        rw [outK_inl] at h
        obtain rfl := Option.some.inj h
        exact main_ret (by kernel_rfl)
      | inr so3 =>
        obtain ⟨rfl, rfl, rfl⟩ := hq
        rw [outK_inr] at h
        show awp _ _ _ _ _ _ _ _
        refine awp_sreg tt_ok (ks := [4, 5, 6]) (hs := []) [(4, vi 0), (5, vi 0), (6, vi 0)] [.cells [vi p_r.Steep, .d (L58 p_r.Points)], .cells [vi x1.1.CvRow.Steep, .d (L58 x1.1.CvRow.Points)]] [] (by kernel_rfl) trivial ?_
        obtain rfl := Option.some.inj h
        refine awp_wk 2 [4, 5, 6] (by kernel_rfl) [(4, vi 0), (5, vi 0), (6, vi 0)] [.cells [vi p_r.Steep, .d (L58 p_r.Points)], .cells [vi x1.1.CvRow.Steep, .d (L58 x1.1.CvRow.Points)]] (by kernel_rfl) (by kernel_rfl) ?_
        exact awp_ret (main_ret (by kernel_rfl))

set_option maxRecDepth 100000 in
theorem ct74v1  {p_x : S_carve_row} {res : Int × (List S_api_CvPoint)} (h : F74v1 p_x = some res) : HCall Try.prog 74 [.d (.agg [(di p_x.CvRow.Steep), (L58 p_x.CvRow.Points)])] [] (.fn (.func 80) [] [.ref 0 0]) [.cells [vi res.1, .d (L58 res.2)]] := by
  refine HCall.of_awpS tt_ok (N := 4) (fl := 0) Try.func74 rfl (by kernel_rfl) rfl rfl (Nat.le_of_ble_eq_true rfl) ?_
  unfold F74v1 at h
  refine awp_sreg tt_ok (ks := [1]) (hs := []) [(1, .ref 0 0)] [.cells [vi p_x.CvRow.Steep, .d (L58 p_x.CvRow.Points)]] [] (by kernel_rfl) trivial ?_
  refine awp_sreg tt_ok (ks := [2]) (hs := []) [(2, .fn (.func 80) [] [.ref 0 0])] [.cells [vi p_x.CvRow.Steep, .d (L58 p_x.CvRow.Points)]] [] (by kernel_rfl) trivial ?_
  obtain rfl := Option.some.inj h
  refine awp_wk 1 [2] (by kernel_rfl) [(2, .fn (.func 80) [] [.ref 0 0])] [.cells [vi p_x.CvRow.Steep, .d (L58 p_x.CvRow.Points)]] (by kernel_rfl) (by kernel_rfl) ?_
  exact awp_ret (main_retS [0] (.fn (.func 80) [] [.ref 0 0]) (by kernel_rfl) (by kernel_rfl) (by kernel_rfl) (by kernel_rfl))

set_option maxRecDepth 100000 in
theorem ct51r  {y1 : Int} {y2 : Int} {b1x0 : Int} {b1x1 : List S_api_CvPoint} {a3 : List S_api_Span} {res : (List S_api_Span)} (h : F51r y1 y2 b1x0 b1x1 a3 = some res) : YCall Try.prog [.yld 0, vi y1, vi y2] [.loop (some none) [34, 35] asn51x0 bdy51x0 78 [(1, .ref 1 0), (4, .ref 2 0)], .cells [vi b1x0, .d (L58 b1x1)], .cells [.sl 2 3 0 a3.length], .fixed (a3.flatMap cel56)] (vb true) [.loop (some none) [34, 35] asn51x0 bdy51x0 78 [(1, .ref 1 0), (4, .ref 2 0)], .cells [vi b1x0, .d (L58 b1x1)], .cells [.sl 2 3 0 res.length], .fixed (res.flatMap cel56)] := by
  refine YCall.of_awp (N := 78) (k := 0) (ps := [34, 35]) (asg := asn51x0) (bd := bdy51x0) (Tl := [(1, .ref 1 0), (4, .ref 2 0)]) rfl (by kernel_rfl) rfl ?_
  refine awp_eq (T' := [(35, vi y2), (34, vi y1), (1, .ref 1 0), (4, .ref 2 0)]) (H' := [.loop (some none) [34, 35] asn51x0 bdy51x0 78 [(1, .ref 1 0), (4, .ref 2 0)], .cells [vi b1x0, .d (L58 b1x1)], .cells [.sl 2 3 0 a3.length], .fixed (a3.flatMap cel56)]) (by kernel_rfl) rfl ?_
  change awp _ _ _ _ asn51x0 _ _ _
  unfold F51r at h
  refine awp_sreg tt_ok (ks := [1, 4, 7, 35]) (hs := []) [(1, .ref 1 0), (4, .ref 2 0), (7, vi y1), (35, vi y2)] [.loop (some none) [34, 35] asn51x0 bdy51x0 78 [(1, .ref 1 0), (4, .ref 2 0)], .cells [vi b1x0, .d (L58 b1x1)], .cells [.sl 2 3 0 a3.length], .fixed (a3.flatMap cel56)] [] (by kernel_rfl) trivial ?_
  refine awp_region (T' := [(1, .ref 1 0), (4, .ref 2 0), (7, vi y1), (8, vi y2)]) (H' := [.loop (some none) [34, 35] asn51x0 bdy51x0 78 [(1, .ref 1 0), (4, .ref 2 0)], .cells [vi b1x0, .d (L58 b1x1)], .cells [.sl 2 3 0 a3.length], .fixed (a3.flatMap cel56)]) (ps := []) tt_ok (ks := [1, 4, 7, 8]) (hs := []) (by kernel_rfl) trivial ?_
  refine ⟨rfl, by kernel_rfl, ?_⟩
  refine awp_eq (T' := [(1, .ref 1 0), (4, .ref 2 0), (7, vi y1), (8, vi y2)]) (H' := [.loop (none) [34, 35] asn51x0 bdy51x0 78 [(1, .ref 1 0), (4, .ref 2 0)], .cells [vi b1x0, .d (L58 b1x1)], .cells [.sl 2 3 0 a3.length], .fixed (a3.flatMap cel56)]) rfl rfl ?_
  refine awp_wkQ ?_
  refine awp_block ?_
  obtain ⟨x1, hx1, h⟩ := Option.bind_eq_some_iff.1 h
  obtain ⟨x2, hx2, h⟩ := Option.bind_eq_some_iff.1 h
  obtain ⟨x3, hx3, h⟩ := Option.bind_eq_some_iff.1 h
  refine awp_sdraw tt_ok mixed (ks := [1, 4, 7, 8]) (hs := [.no, .no, .no, .no, .no, .no, .vals (([(di x1.Lo)] : List D).map .d), .no, .no, .no, .no, .vals (([(di x2.Lo)] : List D).map .d), .no, .no, .no, .no, .no, .no, .no, .cells ((a3.set y2.toNat (⟨(if (w64 (x2.Lo - b1x0)) > x1.Lo then (w64 (x2.Lo - b1x0)) else x1.Lo), x3.Hi⟩ : S_api_Span)).flatMap cel56)]) 17 [1, 4, 7, 8, 36, 37, 52, 53, 54] [(1, .ref 1 0), (4, .ref 2 0), (7, vi y1), (8, vi y2)] [.loop (none) [34, 35] asn51x0 bdy51x0 78 [(1, .ref 1 0), (4, .ref 2 0)], .cells [vi b1x0, .d (L58 b1x1)], .cells [.sl 2 3 0 a3.length], .fixed ((a3.set y2.toNat (⟨(if (w64 (x2.Lo - b1x0)) > x1.Lo then (w64 (x2.Lo - b1x0)) else x1.Lo), x3.Hi⟩ : S_api_Span)).flatMap cel56)] [(0 ≤ y2 ∧ y2 < (a3.length : Int)), LoadOk ((a3.flatMap cel56).map .d) (0 + y2.toNat * 2 + 0) 1 (([(di x1.Lo)] : List D).map .d), (0 ≤ y1 ∧ y1 < (a3.length : Int)), LoadOk ((a3.flatMap cel56).map .d) (0 + y1.toNat * 2 + 0) 1 (([(di x2.Lo)] : List D).map .d), (0 ≤ y2 ∧ y2 < (a3.length : Int)), StoreOk ((a3.flatMap cel56).map .d) (0 + y2.toNat * 2 + 0) (([(di (if (w64 (x2.Lo - b1x0)) > x1.Lo then (w64 (x2.Lo - b1x0)) else x1.Lo))] : List D).map .d) (((a3.set y2.toNat (⟨(if (w64 (x2.Lo - b1x0)) > x1.Lo then (w64 (x2.Lo - b1x0)) else x1.Lo), x3.Hi⟩ : S_api_Span)).flatMap cel56).map .d)] (by kernel_rfl) (And.intro (idx_bounds hx1) (And.intro (loadOk (j := 0) (es := ([(di x1.Lo)] : List D)) cel56_len hx1 rfl rfl rfl (Nat.le_of_ble_eq_true rfl)) (And.intro (idx_bounds hx2) (And.intro (loadOk (j := 0) (es := ([(di x2.Lo)] : List D)) cel56_len hx2 rfl rfl rfl (Nat.le_of_ble_eq_true rfl)) (And.intro (idx_bounds hx3) (storeOk (j := 0) (us := ([(di (if (w64 (x2.Lo - b1x0)) > x1.Lo then (w64 (x2.Lo - b1x0)) else x1.Lo))] : List D)) (y := (⟨(if (w64 (x2.Lo - b1x0)) > x1.Lo then (w64 (x2.Lo - b1x0)) else x1.Lo), x3.Hi⟩ : S_api_Span)) cel56_len hx3 rfl rfl (Nat.le_of_ble_eq_true rfl))))))) ?_
  obtain ⟨x4, hx4, h⟩ := Option.bind_eq_some_iff.1 h
  obtain ⟨x5, hx5, h⟩ := Option.bind_eq_some_iff.1 h
  obtain ⟨x6, hx6, h⟩ := Option.bind_eq_some_iff.1 h
  refine awp_draw (T' := []) (H' := [.loop (none) [34, 35] asn51x0 bdy51x0 78 [(1, .ref 1 0), (4, .ref 2 0)], .cells [vi b1x0, .d (L58 b1x1)], .cells [.sl 2 3 0 a3.length], .fixed (((a3.set y2.toNat (⟨(if (w64 (x2.Lo - b1x0)) > x1.Lo then (w64 (x2.Lo - b1x0)) else x1.Lo), x3.Hi⟩ : S_api_Span)).set y2.toNat (⟨x6.Lo, (if (w64 (x5.Hi + b1x0)) < x4.Hi then (w64 (x5.Hi + b1x0)) else x4.Hi)⟩ : S_api_Span)).flatMap cel56)]) (ps := [(0 ≤ y2 ∧ y2 < (a3.length : Int)), LoadOk (((a3.set y2.toNat (⟨(if (w64 (x2.Lo - b1x0)) > x1.Lo then (w64 (x2.Lo - b1x0)) else x1.Lo), x3.Hi⟩ : S_api_Span)).flatMap cel56).map .d) (0 + y2.toNat * 2 + 1) 1 (([(di x4.Hi)] : List D).map .d), (0 ≤ y1 ∧ y1 < (a3.length : Int)), LoadOk (((a3.set y2.toNat (⟨(if (w64 (x2.Lo - b1x0)) > x1.Lo then (w64 (x2.Lo - b1x0)) else x1.Lo), x3.Hi⟩ : S_api_Span)).flatMap cel56).map .d) (0 + y1.toNat * 2 + 1) 1 (([(di x5.Hi)] : List D).map .d), (0 ≤ y2 ∧ y2 < (a3.length : Int)), StoreOk (((a3.set y2.toNat (⟨(if (w64 (x2.Lo - b1x0)) > x1.Lo then (w64 (x2.Lo - b1x0)) else x1.Lo), x3.Hi⟩ : S_api_Span)).flatMap cel56).map .d) (0 + y2.toNat * 2 + 1) (([(di (if (w64 (x5.Hi + b1x0)) < x4.Hi then (w64 (x5.Hi + b1x0)) else x4.Hi))] : List D).map .d) ((((a3.set y2.toNat (⟨(if (w64 (x2.Lo - b1x0)) > x1.Lo then (w64 (x2.Lo - b1x0)) else x1.Lo), x3.Hi⟩ : S_api_Span)).set y2.toNat (⟨x6.Lo, (if (w64 (x5.Hi + b1x0)) < x4.Hi then (w64 (x5.Hi + b1x0)) else x4.Hi)⟩ : S_api_Span)).flatMap cel56).map .d)]) tt_ok mixed (ks := []) (hs := [.no, .no, .no, .no, .no, .no, .vals (([(di x4.Hi)] : List D).map .d), .no, .no, .no, .no, .vals (([(di x5.Hi)] : List D).map .d), .no, .no, .no, .no, .no, .no, .no, .cells (((a3.set y2.toNat (⟨(if (w64 (x2.Lo - b1x0)) > x1.Lo then (w64 (x2.Lo - b1x0)) else x1.Lo), x3.Hi⟩ : S_api_Span)).set y2.toNat (⟨x6.Lo, (if (w64 (x5.Hi + b1x0)) < x4.Hi then (w64 (x5.Hi + b1x0)) else x4.Hi)⟩ : S_api_Span)).flatMap cel56)]) (m := 17) (mid := [55, 56, 71, 72, 73]) (by kernel_rfl) (And.intro ((by have h0 := idx_bounds hx4; simp only [List.length_set] at h0; exact h0)) (And.intro (loadOk (j := 1) (es := ([(di x4.Hi)] : List D)) cel56_len hx4 rfl rfl rfl (Nat.le_of_ble_eq_true rfl)) (And.intro ((by have h0 := idx_bounds hx5; simp only [List.length_set] at h0; exact h0)) (And.intro (loadOk (j := 1) (es := ([(di x5.Hi)] : List D)) cel56_len hx5 rfl rfl rfl (Nat.le_of_ble_eq_true rfl)) (And.intro ((by have h0 := idx_bounds hx6; simp only [List.length_set] at h0; exact h0)) (storeOk (j := 1) (us := ([(di (if (w64 (x5.Hi + b1x0)) < x4.Hi then (w64 (x5.Hi + b1x0)) else x4.Hi))] : List D)) (y := (⟨x6.Lo, (if (w64 (x5.Hi + b1x0)) < x4.Hi then (w64 (x5.Hi + b1x0)) else x4.Hi)⟩ : S_api_Span)) cel56_len hx6 rfl rfl (Nat.le_of_ble_eq_true rfl))))))) ?_
  obtain rfl := Option.some.inj h
  try delta blockQ
  try delta thenQ
  try delta noGotoA
  show Wk _ _ _ _ _
  refine Wk.mk 4 [] (by kernel_rfl) (T' := []) (H' := [.loop (none) [34, 35] asn51x0 bdy51x0 78 [(1, .ref 1 0), (4, .ref 2 0)], .cells [vi b1x0, .d (L58 b1x1)], .cells [.sl 2 3 0 ((a3.set y2.toNat (⟨(if (w64 (x2.Lo - b1x0)) > x1.Lo then (w64 (x2.Lo - b1x0)) else x1.Lo), x3.Hi⟩ : S_api_Span)).set y2.toNat (⟨x6.Lo, (if (w64 (x5.Hi + b1x0)) < x4.Hi then (w64 (x5.Hi + b1x0)) else x4.Hi)⟩ : S_api_Span)).length], .fixed (((a3.set y2.toNat (⟨(if (w64 (x2.Lo - b1x0)) > x1.Lo then (w64 (x2.Lo - b1x0)) else x1.Lo), x3.Hi⟩ : S_api_Span)).set y2.toNat (⟨x6.Lo, (if (w64 (x5.Hi + b1x0)) < x4.Hi then (w64 (x5.Hi + b1x0)) else x4.Hi)⟩ : S_api_Span)).flatMap cel56)]) (by kernel_rfl) (by simp only [List.length_set]; kernel_rfl) ?_
  exact ⟨none, rfl, rfl, by kernel_rfl, by kernel_rfl⟩

set_option maxRecDepth 100000 in
theorem ct80 {fuel : Nat}  {b1x0 : Int} {b1x1 : List S_api_CvPoint} {a3 : List S_api_Span} {b4x0 : Int} {b4x1 : List S_api_CvPoint} {res : (List S_api_Span)} (h : F80 fuel b1x0 b1x1 a3 b4x0 b4x1 = some res) : HCall Try.prog 80 [.yld 0, .ref 4 0] [.loop (some none) [34, 35] asn51x0 bdy51x0 78 [(1, .ref 1 0), (4, .ref 2 0)], .cells [vi b1x0, .d (L58 b1x1)], .cells [.sl 2 3 0 a3.length], .fixed (a3.flatMap cel56), .cells [vi b4x0, .d (L58 b4x1)]] (.tup []) [.loop (some none) [34, 35] asn51x0 bdy51x0 78 [(1, .ref 1 0), (4, .ref 2 0)], .cells [vi b1x0, .d (L58 b1x1)], .cells [.sl 2 3 0 res.length], .fixed (res.flatMap cel56), .cells [vi b4x0, .d (L58 b4x1)]] := by
  refine HCall.of_awpS tt_ok (N := 34) (fl := 5) Try.func80 rfl (by kernel_rfl) rfl rfl (Nat.le_of_ble_eq_true rfl) ?_
  unfold F80 at h
  refine awp_seq ?_
  refine awp_sreg tt_ok (ks := [0, 1, 3]) (hs := []) [(0, .yld 0), (1, .ref 4 0), (3, vi 1)] [.loop (some none) [34, 35] asn51x0 bdy51x0 78 [(1, .ref 1 0), (4, .ref 2 0)], .cells [vi b1x0, .d (L58 b1x1)], .cells [.sl 2 3 0 a3.length], .fixed (a3.flatMap cel56), .cells [vi b4x0, .d (L58 b4x1)]] [] (by kernel_rfl) trivial ?_
  obtain ⟨o1, ho1, h⟩ := Option.bind_eq_some_iff.1 h
  refine awp_cut1 (OutQ (fun (ro1 : (List S_api_Span)) => []) (fun (ro1 : (List S_api_Span)) => [.loop (some none) [34, 35] asn51x0 bdy51x0 78 [(1, .ref 1 0), (4, .ref 2 0)], .cells [vi b1x0, .d (L58 b1x1)], .cells [.sl 2 3 0 ro1.length], .fixed (ro1.flatMap cel56), .cells [vi b4x0, .d (L58 b4x1)]]) (fun (so1 : (List S_api_Span)) => [(0, .yld 0), (1, .ref 4 0)]) (fun (so1 : (List S_api_Span)) => [.loop (some none) [34, 35] asn51x0 bdy51x0 78 [(1, .ref 1 0), (4, .ref 2 0)], .cells [vi b1x0, .d (L58 b1x1)], .cells [.sl 2 3 0 so1.length], .fixed (so1.flatMap cel56), .cells [vi b4x0, .d (L58 b4x1)]]) o1) ?_ ?_
  · clear h
    have h := ho1
    clear ho1
    refine awp_selQ ?_
    refine awp_wk 5 [0, 1, 3] (by kernel_rfl) [(0, .yld 0), (1, .ref 4 0), (3, vi 1)] [.loop (some none) [34, 35] asn51x0 bdy51x0 78 [(1, .ref 1 0), (4, .ref 2 0)], .cells [vi b1x0, .d (L58 b1x1)], .cells [.sl 2 3 0 a3.length], .fixed (a3.flatMap cel56), .cells [vi b4x0, .d (L58 b4x1)]] (by kernel_rfl) (by kernel_rfl) ?_
    refine awp_block ?_
    refine awp_loop (n := fuel) ?_
    refine awpN_ind (fun n (c2 : Int × (List S_api_Span)) => F80L1 b1x0 b1x1 b4x1 n c2) o1 (fun (c2 : Int × (List S_api_Span)) => [(0, .yld 0), (1, .ref 4 0), (3, vi c2.1)]) (fun (c2 : Int × (List S_api_Span)) => [.loop (some none) [34, 35] asn51x0 bdy51x0 78 [(1, .ref 1 0), (4, .ref 2 0)], .cells [vi b1x0, .d (L58 b1x1)], .cells [.sl 2 3 0 c2.2.length], .fixed (c2.2.flatMap cel56), .cells [vi b4x0, .d (L58 b4x1)]]) (fun _ => rfl) ?_ fuel (1, a3) h
    clear h
    intro n3 c2 h hrn3
    change F80L1 b1x0 b1x1 b4x1 (n3 + 1) c2 = some o1 at h
    rw [F80L1] at h
    refine awp_seq ?_
    refine awp_sreg tt_ok (ks := [0, 1, 3, 10]) (hs := []) [(0, .yld 0), (1, .ref 4 0), (3, vi c2.1), (10, vb (decide (c2.1 < (b4x1.length : Int))))] [.loop (some none) [34, 35] asn51x0 bdy51x0 78 [(1, .ref 1 0), (4, .ref 2 0)], .cells [vi b1x0, .d (L58 b1x1)], .cells [.sl 2 3 0 c2.2.length], .fixed (c2.2.flatMap cel56), .cells [vi b4x0, .d (L58 b4x1)]] [] (by kernel_rfl) trivial ?_
    refine awp_cond (b := (decide (c2.1 < (b4x1.length : Int)))) (by kernel_rfl) (fun hb4 => ?_) (fun hb4 => ?_)
    · rw [if_pos hb4] at h
      refine awp_skip ?_
      show awp _ _ _ _ _ _ _ _
      refine awp_seq ?_
      refine awp_block ?_
      obtain ⟨x5, hx5, h⟩ := Option.bind_eq_some_iff.1 h
      refine awp_sreg tt_ok (ks := [0, 1, 3, 18]) (hs := [.no, .no, .no, .no, .hcall [(0, false), (1, false), (2, false), (3, false)] (vb true) [.loop (some none) [34, 35] asn51x0 bdy51x0 78 [(1, .ref 1 0), (4, .ref 2 0)], .cells [vi b1x0, .d (L58 b1x1)], .cells [.sl 2 3 0 x5.length], .fixed (x5.flatMap cel56)]]) [(0, .yld 0), (1, .ref 4 0), (3, vi c2.1), (18, vb false)] [.loop (some none) [34, 35] asn51x0 bdy51x0 78 [(1, .ref 1 0), (4, .ref 2 0)], .cells [vi b1x0, .d (L58 b1x1)], .cells [.sl 2 3 0 x5.length], .fixed (x5.flatMap cel56), .cells [vi b4x0, .d (L58 b4x1)]] [YCall Try.prog [.yld 0, vi (w64 (c2.1 - 1)), vi c2.1] [.loop (some none) [34, 35] asn51x0 bdy51x0 78 [(1, .ref 1 0), (4, .ref 2 0)], .cells [vi b1x0, .d (L58 b1x1)], .cells [.sl 2 3 0 c2.2.length], .fixed (c2.2.flatMap cel56)] (vb true) [.loop (some none) [34, 35] asn51x0 bdy51x0 78 [(1, .ref 1 0), (4, .ref 2 0)], .cells [vi b1x0, .d (L58 b1x1)], .cells [.sl 2 3 0 x5.length], .fixed (x5.flatMap cel56)]] (by kernel_rfl) (ct51r hx5) ?_
      refine awp_cond (b := false) (by kernel_rfl) (fun hb => absurd hb (by decide)) (fun hb => ?_)
      refine awp_skip ?_
      show awp _ _ _ _ _ _ _ _
      refine awp_region (T' := [(0, .yld 0), (1, .ref 4 0), (3, vi (w64 (c2.1 + 1)))]) (H' := [.loop (some none) [34, 35] asn51x0 bdy51x0 78 [(1, .ref 1 0), (4, .ref 2 0)], .cells [vi b1x0, .d (L58 b1x1)], .cells [.sl 2 3 0 x5.length], .fixed (x5.flatMap cel56), .cells [vi b4x0, .d (L58 b4x1)]]) (ps := []) tt_ok (ks := [0, 1, 3]) (hs := []) (by kernel_rfl) trivial ?_
      exact awpN_wk 5 [0, 1, 3] (by kernel_rfl) _ _ (by kernel_rfl) (by kernel_rfl) (hrn3 ((w64 (c2.1 + 1)), x5) h)
    · rw [if_neg (ntrue hb4)] at h
      refine awp_exit ?_
      obtain rfl := Option.some.inj h
      exact Sel.mk [0, 1, 2, 3, 4] [0, 1] (by kernel_rfl) (by kernel_rfl) (by kernel_rfl) OutQ.norm
  · intro e T H hq
    cases o1 with
    | inl ro1 =>
      obtain ⟨rfl, rfl, rfl⟩ := hq
      rw [outK_inl] at h
      obtain rfl := Option.some.inj h
      exact (main_retS [0, 1, 2, 3, 4] (.tup []) (by kernel_rfl) (by kernel_rfl) (by kernel_rfl) (by kernel_rfl))
    | inr so1 =>
      obtain ⟨rfl, rfl, rfl⟩ := hq
      rw [outK_inr] at h
      show awp _ _ _ _ _ _ _ _
      refine awp_sreg tt_ok (ks := [0, 4]) (hs := []) [(0, .yld 0), (4, vi (w64 ((b4x1.length : Int) - 1)))] [.loop (some none) [34, 35] asn51x0 bdy51x0 78 [(1, .ref 1 0), (4, .ref 2 0)], .cells [vi b1x0, .d (L58 b1x1)], .cells [.sl 2 3 0 so1.length], .fixed (so1.flatMap cel56), .cells [vi b4x0, .d (L58 b4x1)]] [] (by kernel_rfl) trivial ?_
      obtain ⟨o6, ho6, h⟩ := Option.bind_eq_some_iff.1 h
      refine awp_cut1 (OutQ (fun (ro6 : (List S_api_Span)) => []) (fun (ro6 : (List S_api_Span)) => [.loop (some none) [34, 35] asn51x0 bdy51x0 78 [(1, .ref 1 0), (4, .ref 2 0)], .cells [vi b1x0, .d (L58 b1x1)], .cells [.sl 2 3 0 ro6.length], .fixed (ro6.flatMap cel56), .cells [vi b4x0, .d (L58 b4x1)]]) (fun (so6 : (List S_api_Span)) => []) (fun (so6 : (List S_api_Span)) => [.loop (some none) [34, 35] asn51x0 bdy51x0 78 [(1, .ref 1 0), (4, .ref 2 0)], .cells [vi b1x0, .d (L58 b1x1)], .cells [.sl 2 3 0 so6.length], .fixed (so6.flatMap cel56), .cells [vi b4x0, .d (L58 b4x1)]]) o6) ?_ ?_
      · clear h
        have h := ho6
        clear ho6
        refine awp_selQ ?_
        refine awp_wk 5 [0, 4] (by kernel_rfl) [(0, .yld 0), (4, vi (w64 ((b4x1.length : Int) - 1)))] [.loop (some none) [34, 35] asn51x0 bdy51x0 78 [(1, .ref 1 0), (4, .ref 2 0)], .cells [vi b1x0, .d (L58 b1x1)], .cells [.sl 2 3 0 so1.length], .fixed (so1.flatMap cel56), .cells [vi b4x0, .d (L58 b4x1)]] (by kernel_rfl) (by kernel_rfl) ?_
        refine awp_block ?_
        refine awp_loop (n := fuel) ?_
        refine awpN_ind (fun n (c7 : Int × (List S_api_Span)) => F80L2 b1x0 b1x1 n c7) o6 (fun (c7 : Int × (List S_api_Span)) => [(0, .yld 0), (4, vi c7.1)]) (fun (c7 : Int × (List S_api_Span)) => [.loop (some none) [34, 35] asn51x0 bdy51x0 78 [(1, .ref 1 0), (4, .ref 2 0)], .cells [vi b1x0, .d (L58 b1x1)], .cells [.sl 2 3 0 c7.2.length], .fixed (c7.2.flatMap cel56), .cells [vi b4x0, .d (L58 b4x1)]]) (fun _ => rfl) ?_ fuel ((w64 ((b4x1.length : Int) - 1)), so1) h
        clear h
        intro n8 c7 h hrn8
        change F80L2 b1x0 b1x1 (n8 + 1) c7 = some o6 at h
        rw [F80L2] at h
        refine awp_seq ?_
        refine awp_sreg tt_ok (ks := [0, 4, 25]) (hs := []) [(0, .yld 0), (4, vi c7.1), (25, vb (decide (c7.1 > 0)))] [.loop (some none) [34, 35] asn51x0 bdy51x0 78 [(1, .ref 1 0), (4, .ref 2 0)], .cells [vi b1x0, .d (L58 b1x1)], .cells [.sl 2 3 0 c7.2.length], .fixed (c7.2.flatMap cel56), .cells [vi b4x0, .d (L58 b4x1)]] [] (by kernel_rfl) trivial ?_
        refine awp_cond (b := (decide (c7.1 > 0))) (by kernel_rfl) (fun hb9 => ?_) (fun hb9 => ?_)
        · rw [if_pos hb9] at h
          refine awp_skip ?_
          show awp _ _ _ _ _ _ _ _
          refine awp_seq ?_
          refine awp_block ?_
          obtain ⟨x10, hx10, h⟩ := Option.bind_eq_some_iff.1 h
          refine awp_sreg tt_ok (ks := [0, 4, 33]) (hs := [.no, .no, .no, .no, .hcall [(0, false), (1, false), (2, false), (3, false)] (vb true) [.loop (some none) [34, 35] asn51x0 bdy51x0 78 [(1, .ref 1 0), (4, .ref 2 0)], .cells [vi b1x0, .d (L58 b1x1)], .cells [.sl 2 3 0 x10.length], .fixed (x10.flatMap cel56)]]) [(0, .yld 0), (4, vi c7.1), (33, vb false)] [.loop (some none) [34, 35] asn51x0 bdy51x0 78 [(1, .ref 1 0), (4, .ref 2 0)], .cells [vi b1x0, .d (L58 b1x1)], .cells [.sl 2 3 0 x10.length], .fixed (x10.flatMap cel56), .cells [vi b4x0, .d (L58 b4x1)]] [YCall Try.prog [.yld 0, vi c7.1, vi (w64 (c7.1 - 1))] [.loop (some none) [34, 35] asn51x0 bdy51x0 78 [(1, .ref 1 0), (4, .ref 2 0)], .cells [vi b1x0, .d (L58 b1x1)], .cells [.sl 2 3 0 c7.2.length], .fixed (c7.2.flatMap cel56)] (vb true) [.loop (some none) [34, 35] asn51x0 bdy51x0 78 [(1, .ref 1 0), (4, .ref 2 0)], .cells [vi b1x0, .d (L58 b1x1)], .cells [.sl 2 3 0 x10.length], .fixed (x10.flatMap cel56)]] (by kernel_rfl) (ct51r hx10) ?_
          refine awp_cond (b := false) (by kernel_rfl) (fun hb => absurd hb (by decide)) (fun hb => ?_)
          refine awp_skip ?_
          show awp _ _ _ _ _ _ _ _
          refine awp_region (T' := [(0, .yld 0), (4, vi (w64 (c7.1 - 1)))]) (H' := [.loop (some none) [34, 35] asn51x0 bdy51x0 78 [(1, .ref 1 0), (4, .ref 2 0)], .cells [vi b1x0, .d (L58 b1x1)], .cells [.sl 2 3 0 x10.length], .fixed (x10.flatMap cel56), .cells [vi b4x0, .d (L58 b4x1)]]) (ps := []) tt_ok (ks := [0, 4]) (hs := []) (by kernel_rfl) trivial ?_
          exact awpN_wk 5 [0, 4] (by kernel_rfl) _ _ (by kernel_rfl) (by kernel_rfl) (hrn8 ((w64 (c7.1 - 1)), x10) h)
        · rw [if_neg (ntrue hb9)] at h
          refine awp_exit ?_
          obtain rfl := Option.some.inj h
          exact Sel.mk [0, 1, 2, 3, 4] [] (by kernel_rfl) (by kernel_rfl) (by kernel_rfl) OutQ.norm
      · intro e T H hq
        cases o6 with
        | inl ro6 =>
          obtain ⟨rfl, rfl, rfl⟩ := hq
          rw [outK_inl] at h
          obtain rfl := Option.some.inj h
          exact (main_retS [0, 1, 2, 3, 4] (.tup []) (by kernel_rfl) (by kernel_rfl) (by kernel_rfl) (by kernel_rfl))
        | inr so6 =>
          obtain ⟨rfl, rfl, rfl⟩ := hq
          rw [outK_inr] at h
          obtain rfl := Option.some.inj h
          exact (main_retN [0, 1, 2, 3, 4] (.tup []) (by kernel_rfl) (by kernel_rfl) (by kernel_rfl) (by kernel_rfl))

set_option maxRecDepth 100000 in
theorem ct76  {p_s : S_api_Span} {res : Bool} (h : F76 p_s = some res) : PCall Try.prog 76 [(.agg [(di p_s.Lo), (di p_s.Hi)])] (vb res) := by
  refine PCall.of_awp tt_ok (N := 8) Try.func76 rfl (by kernel_rfl) rfl (Nat.le_of_ble_eq_true rfl) rfl ?_
  unfold F76 at h
  refine awp_sreg tt_ok (ks := [1]) (hs := []) [(1, .ref 0 0)] [.cells [vi p_s.Lo, vi p_s.Hi]] [] (by kernel_rfl) trivial ?_
  refine awp_sreg tt_ok (ks := [2]) (hs := []) [(2, vb (decide (p_s.Lo > p_s.Hi)))] [.cells [vi p_s.Lo, vi p_s.Hi]] [] (by kernel_rfl) trivial ?_
  obtain rfl := Option.some.inj h
  refine awp_wk 1 [2] (by kernel_rfl) [(2, vb (decide (p_s.Lo > p_s.Hi)))] [.cells [vi p_s.Lo, vi p_s.Hi]] (by kernel_rfl) (by kernel_rfl) ?_
  exact awp_ret (main_ret (by kernel_rfl))

set_option maxRecDepth 100000 in
theorem ct81 {fuel : Nat}  {a0 : List S_api_Span} {res : Int} (h : F81 fuel a0 = some res) : HCall Try.prog 81 [.sl 2 0 0 a0.length, .fn (.func 76) [] []] [.fixed (a0.flatMap cel56)] (vi res) [.fixed (a0.flatMap cel56)] := by
  refine HCall.of_awpS tt_ok (N := 19) (fl := 1) Try.func81 rfl (by kernel_rfl) rfl rfl (Nat.le_of_ble_eq_true rfl) ?_
  unfold F81 at h
  refine awp_sreg tt_ok (ks := [0, 1]) (hs := []) [(0, .sl 2 0 0 a0.length), (1, .fn (.func 76) [] [])] [.fixed (a0.flatMap cel56)] [] (by kernel_rfl) trivial ?_
  refine awp_seq ?_
  refine awp_sreg tt_ok (ks := [0, 1, 7, 8]) (hs := []) [(0, .sl 2 0 0 a0.length), (1, .fn (.func 76) [] []), (7, vi (a0.length : Int)), (8, vi 0)] [.fixed (a0.flatMap cel56)] [] (by kernel_rfl) trivial ?_
  obtain ⟨o1, ho1, h⟩ := Option.bind_eq_some_iff.1 h
  refine awp_cut1 (OutQ (fun (ro1 : Int) => [(4, vi ro1)]) (fun (ro1 : Int) => [.fixed (a0.flatMap cel56)]) (fun (so1 : Unit) => []) (fun (so1 : Unit) => [.fixed (a0.flatMap cel56)]) o1) ?_ ?_
  · clear h
    have h := ho1
    clear ho1
    refine awp_selQ ?_
    refine awp_wk 1 [0, 1, 7, 8] (by kernel_rfl) [(0, .sl 2 0 0 a0.length), (1, .fn (.func 76) [] []), (7, vi (a0.length : Int)), (8, vi 0)] [.fixed (a0.flatMap cel56)] (by kernel_rfl) (by kernel_rfl) ?_
    refine awp_block ?_
    refine awp_loop (n := fuel) ?_
    refine awpN_ind (fun n (c2 : Int) => F81L1 a0 n c2) o1 (fun (c2 : Int) => [(0, .sl 2 0 0 a0.length), (1, .fn (.func 76) [] []), (7, vi (a0.length : Int)), (8, vi c2)]) (fun (c2 : Int) => [.fixed (a0.flatMap cel56)]) (fun _ => rfl) ?_ fuel 0 h
    clear h
    intro n3 c2 h hrn3
    change F81L1 a0 (n3 + 1) c2 = some o1 at h
    rw [F81L1] at h
    refine awp_sreg tt_ok (ks := [0, 1, 7, 8, 9]) (hs := []) [(0, .sl 2 0 0 a0.length), (1, .fn (.func 76) [] []), (7, vi (a0.length : Int)), (8, vi c2), (9, vb (decide (c2 < (a0.length : Int))))] [.fixed (a0.flatMap cel56)] [] (by kernel_rfl) trivial ?_
    refine awp_seq ?_
    refine awp_cond (b := (decide (c2 < (a0.length : Int)))) (by kernel_rfl) (fun hb4 => ?_) (fun hb4 => ?_)
    · rw [if_pos hb4] at h
      refine awp_skip ?_
      show awp _ _ _ _ _ _ _ _
      refine awp_seq ?_
      refine awp_block ?_
      refine awp_sreg tt_ok (ks := [0, 1, 5, 7, 8]) (hs := []) [(0, .sl 2 0 0 a0.length), (1, .fn (.func 76) [] []), (5, vi c2), (7, vi (a0.length : Int)), (8, vi c2)] [.fixed (a0.flatMap cel56)] [] (by kernel_rfl) trivial ?_
      obtain ⟨x5, hx5, h⟩ := Option.bind_eq_some_iff.1 h
      obtain ⟨x6, hx6, h⟩ := Option.bind_eq_some_iff.1 h
      refine awp_sreg tt_ok (ks := [0, 1, 5, 7, 8, 16]) (hs := [.no, .no, .no, .no, .vals (([(di x5.Lo), (di x5.Hi)] : List D).map .d), .call [(.agg [(di x5.Lo), (di x5.Hi)])] (vb x6)]) [(0, .sl 2 0 0 a0.length), (1, .fn (.func 76) [] []), (5, vi c2), (7, vi (a0.length : Int)), (8, vi c2), (16, vb x6)] [.fixed (a0.flatMap cel56)] [(0 ≤ c2 ∧ c2 < (a0.length : Int)), LoadOk ((a0.flatMap cel56).map .d) (0 + c2.toNat * 2) 2 (([(di x5.Lo), (di x5.Hi)] : List D).map .d), PCall Try.prog 76 [(.agg [(di x5.Lo), (di x5.Hi)])] (vb x6)] (by kernel_rfl) (And.intro (idx_bounds hx5) (And.intro (loadOk (j := 0) (es := ([(di x5.Lo), (di x5.Hi)] : List D)) cel56_len hx5 rfl rfl rfl (Nat.le_of_ble_eq_true rfl)) (ct76 hx6))) ?_
      refine awp_cond (b := x6) (by kernel_rfl) (fun hb7 => ?_) (fun hb7 => ?_)
      · rw [if_pos hb7] at h
        refine awp_sreg tt_ok (ks := [4]) (hs := []) [(4, vi c2)] [.fixed (a0.flatMap cel56)] [] (by kernel_rfl) trivial ?_
        obtain rfl := Option.some.inj h
        refine awp_wk 1 [4] (by kernel_rfl) [(4, vi c2)] [.fixed (a0.flatMap cel56)] (by kernel_rfl) (by kernel_rfl) ?_
        exact awp_ret (Sel.mk [0] [4] (by kernel_rfl) (by kernel_rfl) (by kernel_rfl) OutQ.ret)
      · rw [if_neg (ntrue hb7)] at h
        refine awp_skip ?_
        show awp _ _ _ _ _ _ _ _
        refine awp_region (T' := [(0, .sl 2 0 0 a0.length), (1, .fn (.func 76) [] []), (7, vi (a0.length : Int)), (8, vi (w64 (c2 + 1)))]) (H' := [.fixed (a0.flatMap cel56)]) (ps := []) tt_ok (ks := [0, 1, 7, 8]) (hs := []) (by kernel_rfl) trivial ?_
        exact awpN_wk 1 [0, 1, 7, 8] (by kernel_rfl) _ _ (by kernel_rfl) (by kernel_rfl) (hrn3 (w64 (c2 + 1)) h)
    · rw [if_neg (ntrue hb4)] at h
      refine awp_exit ?_
      obtain rfl := Option.some.inj h
      exact Sel.mk [0] [] (by kernel_rfl) (by kernel_rfl) (by kernel_rfl) OutQ.norm
  · intro e T H hq
    cases o1 with
    | inl ro1 =>
      obtain ⟨rfl, rfl, rfl⟩ := hq
      rw [outK_inl] at h
      obtain rfl := Option.some.inj h
      exact (main_retS [0] (vi ro1) (by kernel_rfl) (by kernel_rfl) (by kernel_rfl) (by kernel_rfl))
    | inr so1 =>
      obtain ⟨rfl, rfl, rfl⟩ := hq
      rw [outK_inr] at h
      show awp _ _ _ _ _ _ _ _
      refine awp_sreg tt_ok (ks := [4]) (hs := []) [(4, vi (-1))] [.fixed (a0.flatMap cel56)] [] (by kernel_rfl) trivial ?_
      obtain rfl := Option.some.inj h
      refine awp_wk 1 [4] (by kernel_rfl) [(4, vi (-1))] [.fixed (a0.flatMap cel56)] (by kernel_rfl) (by kernel_rfl) ?_
      exact awp_ret (main_retS [0] (vi (-1)) (by kernel_rfl) (by kernel_rfl) (by kernel_rfl) (by kernel_rfl))

set_option maxRecDepth 100000 in
theorem ct75 {fuel : Nat}  {a0 : List S_api_Span} {res : Bool} (h : F75 fuel a0 = some res) : HCall Try.prog 75 [.sl 2 0 0 a0.length, .fn (.func 76) [] []] [.fixed (a0.flatMap cel56)] (vb res) [.fixed (a0.flatMap cel56)] := by
  refine HCall.of_awpS tt_ok (N := 9) (fl := 1) Try.func75 rfl (by kernel_rfl) rfl rfl (Nat.le_of_ble_eq_true rfl) ?_
  unfold F75 at h
  refine awp_sreg tt_ok (ks := [0, 1]) (hs := []) [(0, .sl 2 0 0 a0.length), (1, .fn (.func 76) [] [])] [.fixed (a0.flatMap cel56)] [] (by kernel_rfl) trivial ?_
  obtain ⟨x1, hx1, h⟩ := Option.bind_eq_some_iff.1 h
  refine awp_sreg tt_ok (ks := [4]) (hs := [.no, .no, .hcall [(0, false)] (vi x1) [.fixed (a0.flatMap cel56)]]) [(4, vb (decide (x1 ≥ 0)))] [.fixed (a0.flatMap cel56)] [HCall Try.prog 81 [.sl 2 0 0 a0.length, .fn (.func 76) [] []] [.fixed (a0.flatMap cel56)] (vi x1) [.fixed (a0.flatMap cel56)]] (by kernel_rfl) (ct81 hx1) ?_
  obtain rfl := Option.some.inj h
  refine awp_wk 1 [4] (by kernel_rfl) [(4, vb (decide (x1 ≥ 0)))] [.fixed (a0.flatMap cel56)] (by kernel_rfl) (by kernel_rfl) ?_
  exact awp_ret (main_retS [0] (vb (decide (x1 ≥ 0))) (by kernel_rfl) (by kernel_rfl) (by kernel_rfl) (by kernel_rfl))

set_option maxRecDepth 100000 in
theorem ct51 {fuel : Nat}  {p_x : S_carve_row} {res : (List S_api_Span) × Bool} (h : F51 fuel p_x = some res) : PCall Try.prog 51 [(.agg [(di p_x.CvRow.Steep), (L58 p_x.CvRow.Points)])] (.tup [.d (L56 res.1), vb res.2]) := by
  refine PCall.of_awp tt_ok (N := 78) Try.func51 rfl (by kernel_rfl) rfl (Nat.le_of_ble_eq_true rfl) rfl ?_
  unfold F51 at h
  refine awp_sreg tt_ok (ks := [1]) (hs := []) [(1, .ref 0 0)] [.cells [vi p_x.CvRow.Steep, .d (L58 p_x.CvRow.Points)]] [] (by kernel_rfl) trivial ?_
  obtain ⟨x1, hx1, h⟩ := Option.bind_eq_some_iff.1 h
  refine awp_sreg tt_ok (ks := [1, 4]) (hs := [.no, .no, .no, .no, .list (List.replicate (p_x.CvRow.Points.length : Int).toNat ((⟨0, 0⟩ : S_api_Span) : S_api_Span)).length ((List.replicate (p_x.CvRow.Points.length : Int).toNat ((⟨0, 0⟩ : S_api_Span) : S_api_Span)).flatMap cel56)]) [(1, .ref 0 0), (4, .ref 2 0)] [.cells [vi p_x.CvRow.Steep, .d (L58 p_x.CvRow.Points)], .data ((List.replicate (p_x.CvRow.Points.length : Int).toNat ((⟨0, 0⟩ : S_api_Span) : S_api_Span)).flatMap cel56), .cells [.sl 2 1 0 (List.replicate (p_x.CvRow.Points.length : Int).toNat ((⟨0, 0⟩ : S_api_Span) : S_api_Span)).length]] [MakeOk (p_x.CvRow.Points.length : Int) (p_x.CvRow.Points.length : Int) (List.replicate (p_x.CvRow.Points.length : Int).toNat ((⟨0, 0⟩ : S_api_Span) : S_api_Span)).length 16 [.int .i64 0, .int .i64 0] ((List.replicate (p_x.CvRow.Points.length : Int).toNat ((⟨0, 0⟩ : S_api_Span) : S_api_Span)).flatMap cel56)] (by kernel_rfl) (makeOk rfl (need_of hx1)) ?_
  refine awp_seq ?_
  refine awp_sreg tt_ok (ks := [1, 4, 16, 17, 18]) (hs := []) [(1, .ref 0 0), (4, .ref 2 0), (16, .d (L58 p_x.CvRow.Points)), (17, vi (p_x.CvRow.Points.length : Int)), (18, vi 0)] [.cells [vi p_x.CvRow.Steep, .d (L58 p_x.CvRow.Points)], .data ((List.replicate (p_x.CvRow.Points.length : Int).toNat ((⟨0, 0⟩ : S_api_Span) : S_api_Span)).flatMap cel56), .cells [.sl 2 1 0 (List.replicate (p_x.CvRow.Points.length : Int).toNat ((⟨0, 0⟩ : S_api_Span) : S_api_Span)).length]] [] (by kernel_rfl) trivial ?_
  obtain ⟨o2, ho2, h⟩ := Option.bind_eq_some_iff.1 h
  refine awp_cut1 (OutQ (fun (ro2 : (List S_api_Span) × Bool) => [(2, .d (L56 ro2.1)), (3, vb ro2.2)]) (fun (ro2 : (List S_api_Span) × Bool) => []) (fun (so2 : (List S_api_Span)) => [(1, .ref 0 0), (4, .ref 2 0)]) (fun (so2 : (List S_api_Span)) => [.cells [vi p_x.CvRow.Steep, .d (L58 p_x.CvRow.Points)], .data (so2.flatMap cel56), .cells [.sl 2 1 0 so2.length]]) o2) ?_ ?_
  · clear h
    have h := ho2
    clear ho2
    refine awp_selQ ?_
    refine awp_wk 3 [1, 4, 16, 17, 18] (by kernel_rfl) [(1, .ref 0 0), (4, .ref 2 0), (16, .d (L58 p_x.CvRow.Points)), (17, vi (p_x.CvRow.Points.length : Int)), (18, vi 0)] [.cells [vi p_x.CvRow.Steep, .d (L58 p_x.CvRow.Points)], .data ((List.replicate (p_x.CvRow.Points.length : Int).toNat ((⟨0, 0⟩ : S_api_Span) : S_api_Span)).flatMap cel56), .cells [.sl 2 1 0 (List.replicate (p_x.CvRow.Points.length : Int).toNat ((⟨0, 0⟩ : S_api_Span) : S_api_Span)).length]] (by kernel_rfl) (by kernel_rfl) ?_
    refine awp_block ?_
    refine awp_loop (n := fuel) ?_
    refine awpN_ind (fun n (c3 : Int × (List S_api_Span)) => F51L1 p_x n c3) o2 (fun (c3 : Int × (List S_api_Span)) => [(1, .ref 0 0), (4, .ref 2 0), (16, .d (L58 p_x.CvRow.Points)), (17, vi (p_x.CvRow.Points.length : Int)), (18, vi c3.1)]) (fun (c3 : Int × (List S_api_Span)) => [.cells [vi p_x.CvRow.Steep, .d (L58 p_x.CvRow.Points)], .data (c3.2.flatMap cel56), .cells [.sl 2 1 0 c3.2.length]]) (fun _ => rfl) ?_ fuel (0, (List.replicate (p_x.CvRow.Points.length : Int).toNat ((⟨0, 0⟩ : S_api_Span) : S_api_Span))) h
    clear h
    intro n4 c3 h hrn4
    change F51L1 p_x (n4 + 1) c3 = some o2 at h
    rw [F51L1] at h
    refine awp_sreg tt_ok (ks := [1, 4, 16, 17, 18, 19]) (hs := []) [(1, .ref 0 0), (4, .ref 2 0), (16, .d (L58 p_x.CvRow.Points)), (17, vi (p_x.CvRow.Points.length : Int)), (18, vi c3.1), (19, vb (decide (c3.1 < (p_x.CvRow.Points.length : Int))))] [.cells [vi p_x.CvRow.Steep, .d (L58 p_x.CvRow.Points)], .data (c3.2.flatMap cel56), .cells [.sl 2 1 0 c3.2.length]] [] (by kernel_rfl) trivial ?_
    refine awp_seq ?_
    refine awp_cond (b := (decide (c3.1 < (p_x.CvRow.Points.length : Int)))) (by kernel_rfl) (fun hb5 => ?_) (fun hb5 => ?_)
    · rw [if_pos hb5] at h
      refine awp_skip ?_
      show awp _ _ _ _ _ _ _ _
      refine awp_seq ?_
      refine awp_block ?_
      obtain ⟨x6, hx6, h⟩ := Option.bind_eq_some_iff.1 h
      refine awp_sreg tt_ok (ks := [1, 4, 5, 6, 16, 17, 18]) (hs := [.no, .cells (cel58 x6)]) [(1, .ref 0 0), (4, .ref 2 0), (5, vi c3.1), (6, .ref 3 0), (16, .d (L58 p_x.CvRow.Points)), (17, vi (p_x.CvRow.Points.length : Int)), (18, vi c3.1)] [.cells [vi p_x.CvRow.Steep, .d (L58 p_x.CvRow.Points)], .data (c3.2.flatMap cel56), .cells [.sl 2 1 0 c3.2.length], .cells [vi x6.Board, vi x6.Lo, vi x6.Hi]] [IX58 p_x.CvRow.Points c3.1 x6] (by kernel_rfl) (idxOk cel58_len hx6) ?_
      obtain ⟨x7, hx7, h⟩ := Option.bind_eq_some_iff.1 h
      refine awp_region (T' := [(1, .ref 0 0), (4, .ref 2 0), (16, .d (L58 p_x.CvRow.Points)), (17, vi (p_x.CvRow.Points.length : Int)), (18, vi c3.1)]) (H' := [.cells [vi p_x.CvRow.Steep, .d (L58 p_x.CvRow.Points)], .data ((c3.2.set c3.1.toNat (⟨x6.Lo, x6.Hi⟩ : S_api_Span)).flatMap cel56), .cells [.sl 2 1 0 c3.2.length], .cells [vi x6.Board, vi x6.Lo, vi x6.Hi]]) (ps := [(0 ≤ c3.1 ∧ c3.1 < (c3.2.length : Int)), StoreOk ((c3.2.flatMap cel56).map .d) (0 + c3.1.toNat * 2) (([(di x6.Lo), (di x6.Hi)] : List D).map .d) (((c3.2.set c3.1.toNat (⟨x6.Lo, x6.Hi⟩ : S_api_Span)).flatMap cel56).map .d)]) tt_ok (ks := [1, 4, 16, 17, 18]) (hs := [.no, .no, .no, .no, .no, .no, .no, .no, .cells ((c3.2.set c3.1.toNat (⟨x6.Lo, x6.Hi⟩ : S_api_Span)).flatMap cel56)]) (by kernel_rfl) (And.intro (idx_bounds hx7) (storeOk (j := 0) (us := ([(di x6.Lo), (di x6.Hi)] : List D)) (y := (⟨x6.Lo, x6.Hi⟩ : S_api_Span)) cel56_len hx7 rfl rfl (Nat.le_of_ble_eq_true rfl))) ?_
      show awp _ _ _ _ _ _ _ _
      refine awp_region (T' := [(1, .ref 0 0), (4, .ref 2 0), (16, .d (L58 p_x.CvRow.Points)), (17, vi (p_x.CvRow.Points.length : Int)), (18, vi (w64 (c3.1 + 1)))]) (H' := [.cells [vi p_x.CvRow.Steep, .d (L58 p_x.CvRow.Points)], .data ((c3.2.set c3.1.toNat (⟨x6.Lo, x6.Hi⟩ : S_api_Span)).flatMap cel56), .cells [.sl 2 1 0 c3.2.length], .cells [vi x6.Board, vi x6.Lo, vi x6.Hi]]) (ps := []) tt_ok (ks := [1, 4, 16, 17, 18]) (hs := []) (by kernel_rfl) trivial ?_
      exact awpN_wk 3 [1, 4, 16, 17, 18] (by kernel_rfl) _ _ (by kernel_rfl) (by simp only [List.length_set]; kernel_rfl) (hrn4 ((w64 (c3.1 + 1)), (c3.2.set c3.1.toNat (⟨x6.Lo, x6.Hi⟩ : S_api_Span))) h)
    · rw [if_neg (ntrue hb5)] at h
      refine awp_exit ?_
      obtain rfl := Option.some.inj h
      exact Sel.mk [0, 1, 2] [1, 4] (by kernel_rfl) (by kernel_rfl) (by kernel_rfl) OutQ.norm
  · intro e T H hq
    cases o2 with
    | inl ro2 =>
      obtain ⟨rfl, rfl, rfl⟩ := hq
      rw [outK_inl] at h
      obtain rfl := Option.some.inj h
      exact main_ret (by kernel_rfl)
    | inr so2 =>
      obtain ⟨rfl, rfl, rfl⟩ := hq
      rw [outK_inr] at h
      show awp _ _ _ _ _ _ _ _
      refine awp_seq ?_
      obtain ⟨x8, hx8, h⟩ := Option.bind_eq_some_iff.1 h
      refine awp_sreg tt_ok (ks := [1, 4, 33]) (hs := [.no, .hcall [] (.fn (.func 80) [] [.ref 0 0]) [.cells [vi x8.1, .d (L58 x8.2)]]]) [(1, .ref 0 0), (4, .ref 2 0), (33, .fn (.func 80) [] [.ref 3 0])] [.cells [vi p_x.CvRow.Steep, .d (L58 p_x.CvRow.Points)], .data (so2.flatMap cel56), .cells [.sl 2 1 0 so2.length], .cells [vi x8.1, .d (L58 x8.2)]] [HCall Try.prog 74 [.d (.agg [(di p_x.CvRow.Steep), (L58 p_x.CvRow.Points)])] [] (.fn (.func 80) [] [.ref 0 0]) [.cells [vi x8.1, .d (L58 x8.2)]]] (by kernel_rfl) (ct74v1 hx8) ?_
      refine awp_block ?_
      obtain ⟨x9, hx9, h⟩ := Option.bind_eq_some_iff.1 h
      refine awp_range (ks := [1, 4]) (ids := [(4, false), (0, false), (2, false), (1, true), (3, false)]) (r := .tup []) (Hc := [.loop (some none) [34, 35] asn51x0 bdy51x0 78 [(1, .ref 1 0), (4, .ref 2 0)], .cells [vi p_x.CvRow.Steep, .d (L58 p_x.CvRow.Points)], .cells [.sl 2 3 0 x9.length], .fixed (x9.flatMap cel56), .cells [vi x8.1, .d (L58 x8.2)]]) none [(1, .ref 0 0), (4, .ref 2 0), (33, .fn (.func 80) [] [.ref 3 0])] [.cells [vi p_x.CvRow.Steep, .d (L58 p_x.CvRow.Points)], .data (x9.flatMap cel56), .cells [.sl 2 1 0 x9.length], .cells [vi x8.1, .d (L58 x8.2)], .data []] [HCall Try.prog 80 [.yld 0, .ref 4 0] [.loop (some none) [34, 35] asn51x0 bdy51x0 78 [(1, .ref 1 0), (4, .ref 2 0)], .cells [vi p_x.CvRow.Steep, .d (L58 p_x.CvRow.Points)], .cells [.sl 2 3 0 so2.length], .fixed (so2.flatMap cel56), .cells [vi x8.1, .d (L58 x8.2)]] (.tup []) [.loop (some none) [34, 35] asn51x0 bdy51x0 78 [(1, .ref 1 0), (4, .ref 2 0)], .cells [vi p_x.CvRow.Steep, .d (L58 p_x.CvRow.Points)], .cells [.sl 2 3 0 x9.length], .fixed (x9.flatMap cel56), .cells [vi x8.1, .d (L58 x8.2)]]] rfl (by kernel_rfl) (ct80 hx9) (fun _ => ?_) (fun c hc => absurd hc (by simp))
      show awp _ _ _ _ _ _ _ _
      obtain ⟨x10, hx10, h⟩ := Option.bind_eq_some_iff.1 h
      refine awp_seq (awp_any (T' := [(2, .sl 2 1 0 x9.length), (3, vb (!x10))]) (H' := [.cells [vi p_x.CvRow.Steep, .d (L58 p_x.CvRow.Points)], .data (x9.flatMap cel56), .cells [.sl 2 1 0 x9.length], .cells [vi x8.1, .d (L58 x8.2)], .data []]) (ps := [HCall Try.prog 75 [.sl 2 0 0 x9.length, .fn (.func 76) [] []] [.fixed (x9.flatMap cel56)] (vb x10) [.fixed (x9.flatMap cel56)]]) tt_ok mixed (ks := [2, 3]) (hs := [.no, .no, .hcall [(1, true)] (vb x10) [.fixed (x9.flatMap cel56)]]) (m := 5) (mid := [2, 3, 77]) (by kernel_rfl) (ct75 hx10) ?_)
      show awp _ _ _ _ _ _ _ _
      obtain rfl := Option.some.inj h
      refine awp_wk 5 [2, 3] (by kernel_rfl) [(2, .sl 2 1 0 x9.length), (3, vb (!x10))] [.cells [vi p_x.CvRow.Steep, .d (L58 p_x.CvRow.Points)], .data (x9.flatMap cel56), .cells [.sl 2 1 0 x9.length], .cells [vi x8.1, .d (L58 x8.2)], .data []] (by kernel_rfl) (by kernel_rfl) ?_
      refine awp_freeze 2 1 (x9.flatMap cel56) (.sl 2 1 0 x9.length) (.d (L56 x9)) _ _ (ps := [(x9.flatMap cel56).length = x9.length * 2]) (by kernel_rfl) (by kernel_rfl) (by kernel_rfl) (flatMap_len cel56 2 cel56_len x9) rfl rfl ?_
      refine awp_wk 5 [2, 3] (by kernel_rfl) [(2, .d (L56 x9)), (3, vb (!x10))] [.cells [vi p_x.CvRow.Steep, .d (L58 p_x.CvRow.Points)], .data (([] : List S_api_Span).flatMap cel56), .cells [.top], .cells [vi x8.1, .d (L58 x8.2)], .data []] (by kernel_rfl) (by kernel_rfl) ?_
      exact awp_ret (main_ret (by kernel_rfl))

set_option maxRecDepth 100000 in
theorem ct18 {fuel : Nat}  {p_r : S_api_CvRow} {res : (List S_api_Span) × Int} (h : F18 fuel p_r = some res) : PCall Try.prog 18 [(.agg [(di p_r.Steep), (L58 p_r.Points)])] (.tup [.d (L56 res.1), vi res.2]) := by
  refine PCall.of_awp tt_ok (N := 27) Try.func18 rfl (by kernel_rfl) rfl (Nat.le_of_ble_eq_true rfl) rfl ?_
  unfold F18 at h
  refine awp_sreg tt_ok (ks := [1]) (hs := []) [(1, .ref 0 0)] [.cells [vi p_r.Steep, .d (L58 p_r.Points)]] [] (by kernel_rfl) trivial ?_
  refine awp_seq ?_
  obtain ⟨x1, hx1, h⟩ := Option.bind_eq_some_iff.1 h
  refine awp_sreg tt_ok (ks := [1, 6]) (hs := [.no, .call [(.agg [(di p_r.Steep), (L58 p_r.Points)])] (.tup [vi x1.1, vi x1.2.1, vi x1.2.2])]) [(1, .ref 0 0), (6, vi x1.2.2)] [.cells [vi p_r.Steep, .d (L58 p_r.Points)]] [PCall Try.prog 16 [(.agg [(di p_r.Steep), (L58 p_r.Points)])] (.tup [vi x1.1, vi x1.2.1, vi x1.2.2])] (by kernel_rfl) (ct16 hx1) ?_
  refine awp_sreg tt_ok (ks := [1, 6, 16]) (hs := []) [(1, .ref 0 0), (6, vi x1.2.2), (16, vb (x1.2.2 != 0))] [.cells [vi p_r.Steep, .d (L58 p_r.Points)]] [] (by kernel_rfl) trivial ?_
  refine awp_cond (b := (x1.2.2 != 0)) (by kernel_rfl) (fun hb2 => ?_) (fun hb2 => ?_)
  · rw [if_pos hb2] at h
    refine awp_sreg tt_ok (ks := [2, 3]) (hs := []) [(2, .d dnil), (3, vi x1.2.2)] [.cells [vi p_r.Steep, .d (L58 p_r.Points)]] [] (by kernel_rfl) trivial ?_
    obtain rfl := Option.some.inj h
    refine awp_wk 1 [2, 3] (by kernel_rfl) [(2, .d dnil), (3, vi x1.2.2)] [.cells [vi p_r.Steep, .d (L58 p_r.Points)]] (by kernel_rfl) (by kernel_rfl) ?_
    refine awp_laxT 2 _ (L56 ([] : List S_api_Span)) _ (by kernel_rfl) (.nil (e := 2)) rfl ?_
    refine awp_wk 1 [2, 3] (by kernel_rfl) [(2, .d (L56 ([] : List S_api_Span))), (3, vi x1.2.2)] [.cells [vi p_r.Steep, .d (L58 p_r.Points)]] (by kernel_rfl) (by kernel_rfl) ?_
    exact awp_ret (main_ret (by kernel_rfl))
  · rw [if_neg (ntrue hb2)] at h
    refine awp_skip ?_
    show awp _ _ _ _ _ _ _ _
    obtain ⟨x3, hx3, h⟩ := Option.bind_eq_some_iff.1 h
    refine awp_sreg tt_ok (ks := [7, 8]) (hs := [.no, .no, .call [(.agg [(di p_r.Steep), (L58 p_r.Points)])] (.tup [.d (L56 x3.1), vb x3.2])]) [(7, .d (L56 x3.1)), (8, vb x3.2)] [.cells [vi p_r.Steep, .d (L58 p_r.Points)]] [PCall Try.prog 51 [(.agg [(di p_r.Steep), (L58 p_r.Points)])] (.tup [.d (L56 x3.1), vb x3.2])] (by kernel_rfl) (ct51 hx3) ?_
    refine awp_seq ?_
    refine awp_sreg tt_ok (ks := [7, 25]) (hs := []) [(7, .d (L56 x3.1)), (25, vb (!x3.2))] [.cells [vi p_r.Steep, .d (L58 p_r.Points)]] [] (by kernel_rfl) trivial ?_
    refine awp_cond (b := (!x3.2)) (by kernel_rfl) (fun hb4 => ?_) (fun hb4 => ?_)
    · rw [if_pos hb4] at h
      refine awp_sreg tt_ok (ks := [2, 3]) (hs := []) [(2, .d dnil), (3, vi 9)] [.cells [vi p_r.Steep, .d (L58 p_r.Points)]] [] (by kernel_rfl) trivial ?_
      obtain rfl := Option.some.inj h
      refine awp_wk 1 [2, 3] (by kernel_rfl) [(2, .d dnil), (3, vi 9)] [.cells [vi p_r.Steep, .d (L58 p_r.Points)]] (by kernel_rfl) (by kernel_rfl) ?_
      refine awp_laxT 2 _ (L56 ([] : List S_api_Span)) _ (by kernel_rfl) (.nil (e := 2)) rfl ?_
      refine awp_wk 1 [2, 3] (by kernel_rfl) [(2, .d (L56 ([] : List S_api_Span))), (3, vi 9)] [.cells [vi p_r.Steep, .d (L58 p_r.Points)]] (by kernel_rfl) (by kernel_rfl) ?_
      exact awp_ret (main_ret (by kernel_rfl))
    · rw [if_neg (ntrue hb4)] at h
      refine awp_skip ?_
      show awp _ _ _ _ _ _ _ _
      refine awp_sreg tt_ok (ks := [2, 3]) (hs := []) [(2, .d (L56 x3.1)), (3, vi 0)] [.cells [vi p_r.Steep, .d (L58 p_r.Points)]] [] (by kernel_rfl) trivial ?_
      obtain rfl := Option.some.inj h
      refine awp_wk 1 [2, 3] (by kernel_rfl) [(2, .d (L56 x3.1)), (3, vi 0)] [.cells [vi p_r.Steep, .d (L58 p_r.Points)]] (by kernel_rfl) (by kernel_rfl) ?_
      exact awp_ret (main_ret (by kernel_rfl))

set_option maxRecDepth 100000 in
theorem ct54 {fuel : Nat}  {p_x : S_carve_row} {res : Bool} (h : F54 fuel p_x = some res) : PCall Try.prog 54 [(.agg [(di p_x.CvRow.Steep), (L58 p_x.CvRow.Points)])] (vb res) := by
  refine PCall.of_awp tt_ok (N := 11) Try.func54 rfl (by kernel_rfl) rfl (Nat.le_of_ble_eq_true rfl) rfl ?_
  unfold F54 at h
  refine awp_sreg tt_ok (ks := [1]) (hs := []) [(1, .ref 0 0)] [.cells [vi p_x.CvRow.Steep, .d (L58 p_x.CvRow.Points)]] [] (by kernel_rfl) trivial ?_
  obtain ⟨x1, hx1, h⟩ := Option.bind_eq_some_iff.1 h
  refine awp_sreg tt_ok (ks := [4]) (hs := [.no, .call [(.agg [(di p_x.CvRow.Steep), (L58 p_x.CvRow.Points)])] (.tup [.d (L56 x1.1), vb x1.2])]) [(4, vb x1.2)] [.cells [vi p_x.CvRow.Steep, .d (L58 p_x.CvRow.Points)]] [PCall Try.prog 51 [(.agg [(di p_x.CvRow.Steep), (L58 p_x.CvRow.Points)])] (.tup [.d (L56 x1.1), vb x1.2])] (by kernel_rfl) (ct51 hx1) ?_
  refine awp_sreg tt_ok (ks := [2]) (hs := []) [(2, vb x1.2)] [.cells [vi p_x.CvRow.Steep, .d (L58 p_x.CvRow.Points)]] [] (by kernel_rfl) trivial ?_
  obtain rfl := Option.some.inj h
  refine awp_wk 1 [2] (by kernel_rfl) [(2, vb x1.2)] [.cells [vi p_x.CvRow.Steep, .d (L58 p_x.CvRow.Points)]] (by kernel_rfl) (by kernel_rfl) ?_
  exact awp_ret (main_ret (by kernel_rfl))

set_option maxRecDepth 100000 in
theorem ct21 {fuel : Nat}  {p_r : S_api_CvRow} {res : Int × Int × Int} (h : F21 fuel p_r = some res) : PCall Try.prog 21 [(.agg [(di p_r.Steep), (L58 p_r.Points)])] (.tup [vi res.1, vi res.2.1, vi res.2.2]) := by
  refine PCall.of_awp tt_ok (N := 49) Try.func21 rfl (by kernel_rfl) rfl (Nat.le_of_ble_eq_true rfl) rfl ?_
  unfold F21 at h
  refine awp_sreg tt_ok (ks := [1]) (hs := []) [(1, .ref 0 0)] [.cells [vi p_r.Steep, .d (L58 p_r.Points)]] [] (by kernel_rfl) trivial ?_
  refine awp_seq ?_
  obtain ⟨x1, hx1, h⟩ := Option.bind_eq_some_iff.1 h
  refine awp_sreg tt_ok (ks := [1, 4]) (hs := [.no, .call [(.agg [(di p_r.Steep), (L58 p_r.Points)])] (.tup [vi x1.1, vi x1.2.1, vi x1.2.2])]) [(1, .ref 0 0), (4, vi x1.2.2)] [.cells [vi p_r.Steep, .d (L58 p_r.Points)]] [PCall Try.prog 16 [(.agg [(di p_r.Steep), (L58 p_r.Points)])] (.tup [vi x1.1, vi x1.2.1, vi x1.2.2])] (by kernel_rfl) (ct16 hx1) ?_
  refine awp_sreg tt_ok (ks := [1, 4, 13]) (hs := []) [(1, .ref 0 0), (4, vi x1.2.2), (13, vb (x1.2.2 != 0))] [.cells [vi p_r.Steep, .d (L58 p_r.Points)]] [] (by kernel_rfl) trivial ?_
  refine awp_cond (b := (x1.2.2 != 0)) (by kernel_rfl) (fun hb2 => ?_) (fun hb2 => ?_)
  · rw [if_pos hb2] at h
    refine awp_sreg tt_ok (ks := [2, 3, 4]) (hs := []) [(2, vi 0), (3, vi 0), (4, vi x1.2.2)] [.cells [vi p_r.Steep, .d (L58 p_r.Points)]] [] (by kernel_rfl) trivial ?_
    obtain rfl := Option.some.inj h
    refine awp_wk 1 [2, 3, 4] (by kernel_rfl) [(2, vi 0), (3, vi 0), (4, vi x1.2.2)] [.cells [vi p_r.Steep, .d (L58 p_r.Points)]] (by kernel_rfl) (by kernel_rfl) ?_
    exact awp_ret (main_ret (by kernel_rfl))
  · rw [if_neg (ntrue hb2)] at h
    refine awp_skip ?_
    show awp _ _ _ _ _ _ _ _
    refine awp_seq ?_
    refine awp_sreg tt_ok (ks := [1, 17, 18]) (hs := []) [(1, .ref 0 0), (17, vi (p_r.Points.length : Int)), (18, vi 0)] [.cells [vi p_r.Steep, .d (L58 p_r.Points)]] [] (by kernel_rfl) trivial ?_
    obtain ⟨o3, ho3, h⟩ := Option.bind_eq_some_iff.1 h
    refine awp_cut1 (OutQ (fun (ro3 : Int × Int × Int) => [(2, vi ro3.1), (3, vi ro3.2.1), (4, vi ro3.2.2)]) (fun (ro3 : Int × Int × Int) => []) (fun (so3 : Unit) => []) (fun (so3 : Unit) => [.cells [vi p_r.Steep, .d (L58 p_r.Points)]]) o3) ?_ ?_
    · clear h
      have h := ho3
      clear ho3
      refine awp_selQ ?_
      refine awp_wk 1 [1, 17, 18] (by kernel_rfl) [(1, .ref 0 0), (17, vi (p_r.Points.length : Int)), (18, vi 0)] [.cells [vi p_r.Steep, .d (L58 p_r.Points)]] (by kernel_rfl) (by kernel_rfl) ?_
      refine awp_block ?_
      refine awp_loop (n := fuel) ?_
      refine awpN_ind (fun n (c4 : Int) => F21L1 fuel p_r n c4) o3 (fun (c4 : Int) => [(1, .ref 0 0), (17, vi (p_r.Points.length : Int)), (18, vi c4)]) (fun (c4 : Int) => [.cells [vi p_r.Steep, .d (L58 p_r.Points)]]) (fun _ => rfl) ?_ fuel 0 h
      clear h
      intro n5 c4 h hrn5
      change F21L1 fuel p_r (n5 + 1) c4 = some o3 at h
      rw [F21L1] at h
      refine awp_sreg tt_ok (ks := [1, 17, 18, 19]) (hs := []) [(1, .ref 0 0), (17, vi (p_r.Points.length : Int)), (18, vi c4), (19, vb (decide (c4 < (p_r.Points.length : Int))))] [.cells [vi p_r.Steep, .d (L58 p_r.Points)]] [] (by kernel_rfl) trivial ?_
      refine awp_seq ?_
      refine awp_cond (b := (decide (c4 < (p_r.Points.length : Int)))) (by kernel_rfl) (fun hb6 => ?_) (fun hb6 => ?_)
      · rw [if_pos hb6] at h
        refine awp_skip ?_
        show awp _ _ _ _ _ _ _ _
        refine awp_seq ?_
        refine awp_block ?_
        refine awp_sreg tt_ok (ks := [1, 3, 17, 18]) (hs := []) [(1, .ref 0 0), (3, vi c4), (17, vi (p_r.Points.length : Int)), (18, vi c4)] [.cells [vi p_r.Steep, .d (L58 p_r.Points)]] [] (by kernel_rfl) trivial ?_
        refine awp_sreg tt_ok (ks := [1, 3, 5, 17, 18]) (hs := []) [(1, .ref 0 0), (3, vi c4), (5, .ref 1 0), (17, vi (p_r.Points.length : Int)), (18, vi c4)] [.cells [vi p_r.Steep, .d (L58 p_r.Points)], .cells [vi p_r.Steep, .d (L58 p_r.Points)]] [] (by kernel_rfl) trivial ?_
        refine awp_seq ?_
        obtain ⟨x7, hx7, h⟩ := Option.bind_eq_some_iff.1 h
        refine awp_sreg tt_ok (ks := [1, 3, 5, 17, 18]) (hs := [.no, .no, .no, .no, .list x7.length (x7.flatMap cel58)]) [(1, .ref 0 0), (3, vi c4), (5, .ref 1 0), (17, vi (p_r.Points.length : Int)), (18, vi c4)] [.cells [vi p_r.Steep, .d (L58 p_r.Points)], .cells [vi p_r.Steep, .d (L58 x7)]] [SliceOk (p_r.Points.flatMap cel58) 3 p_r.Points.length 0 (w64 (c4 + 1)) x7.length (x7.flatMap cel58)] (by kernel_rfl) (sliceOk cel58_len hx7) ?_
        obtain ⟨x8, hx8, h⟩ := Option.bind_eq_some_iff.1 h
        refine awp_sreg tt_ok (ks := [1, 3, 5, 17, 18, 31]) (hs := [.no, .call [(.agg [(di p_r.Steep), (L58 x7)])] (vb x8)]) [(1, .ref 0 0), (3, vi c4), (5, .ref 1 0), (17, vi (p_r.Points.length : Int)), (18, vi c4), (31, vb x8)] [.cells [vi p_r.Steep, .d (L58 p_r.Points)], .cells [vi p_r.Steep, .d (L58 x7)]] [PCall Try.prog 54 [(.agg [(di p_r.Steep), (L58 x7)])] (vb x8)] (by kernel_rfl) (ct54 hx8) ?_
        refine awp_cond (b := x8) (by kernel_rfl) (fun hb9 => ?_) (fun hb9 => ?_)
        · rw [if_pos hb9] at h
          refine awp_exit ?_
          show awp _ _ _ _ _ _ _ _
          refine awp_region (T' := [(1, .ref 0 0), (17, vi (p_r.Points.length : Int)), (18, vi (w64 (c4 + 1)))]) (H' := [.cells [vi p_r.Steep, .d (L58 p_r.Points)], .cells [vi p_r.Steep, .d (L58 x7)]]) (ps := []) tt_ok (ks := [1, 17, 18]) (hs := []) (by kernel_rfl) trivial ?_
          exact awpN_wk 1 [1, 17, 18] (by kernel_rfl) _ _ (by kernel_rfl) (by kernel_rfl) (hrn5 (w64 (c4 + 1)) h)
        · rw [if_neg (ntrue hb9)] at h
          refine awp_skip ?_
          show awp _ _ _ _ _ _ _ _
          refine awp_sreg tt_ok (ks := [1, 2, 3, 5]) (hs := []) [(1, .ref 0 0), (2, vi c4), (3, vi c4), (5, .ref 1 0)] [.cells [vi p_r.Steep, .d (L58 p_r.Points)], .cells [vi p_r.Steep, .d (L58 x7)]] [] (by kernel_rfl) trivial ?_
          obtain ⟨o10, ho10, h⟩ := Option.bind_eq_some_iff.1 h
          refine awp_cut1 (OutQ (fun (ro10 : Int × Int × Int) => [(2, vi ro10.1), (3, vi ro10.2.1), (4, vi ro10.2.2)]) (fun (ro10 : Int × Int × Int) => []) (fun (_ : Unit) => []) (fun (_ : Unit) => []) o10) ?_ ?_
          · clear h
            have h := ho10
            clear ho10
            refine awp_selQ ?_
            refine awp_wk 2 [1, 2, 3, 5] (by kernel_rfl) [(1, .ref 0 0), (2, vi c4), (3, vi c4), (5, .ref 1 0)] [.cells [vi p_r.Steep, .d (L58 p_r.Points)], .cells [vi p_r.Steep, .d (L58 x7)]] (by kernel_rfl) (by kernel_rfl) ?_
            refine awp_block ?_
            refine awp_loop (n := fuel) ?_
            refine awpN_ind (fun n (c11 : Int × (List S_api_CvPoint)) => F21L2 fuel p_r c4 n c11) o10 (fun (c11 : Int × (List S_api_CvPoint)) => [(1, .ref 0 0), (2, vi c11.1), (3, vi c4), (5, .ref 1 0)]) (fun (c11 : Int × (List S_api_CvPoint)) => [.cells [vi p_r.Steep, .d (L58 p_r.Points)], .cells [vi p_r.Steep, .d (L58 c11.2)]]) (fun _ => rfl) ?_ fuel (c4, x7) h
            clear h
            intro n12 c11 h hrn12
            change F21L2 fuel p_r c4 (n12 + 1) c11 = some o10 at h
            rw [F21L2] at h
            refine awp_seq ?_
            refine awp_block ?_
            obtain ⟨x13, hx13, h⟩ := Option.bind_eq_some_iff.1 h
            refine awp_sreg tt_ok (ks := [1, 2, 3, 5]) (hs := [.no, .no, .no, .no, .no, .list x13.length (x13.flatMap cel58)]) [(1, .ref 0 0), (2, vi c11.1), (3, vi c4), (5, .ref 1 0)] [.cells [vi p_r.Steep, .d (L58 p_r.Points)], .cells [vi p_r.Steep, .d (L58 x13)]] [SliceOk (p_r.Points.flatMap cel58) 3 p_r.Points.length c11.1 (w64 (c4 + 1)) x13.length (x13.flatMap cel58)] (by kernel_rfl) (sliceOk cel58_len hx13) ?_
            obtain ⟨x14, hx14, h⟩ := Option.bind_eq_some_iff.1 h
            refine awp_sreg tt_ok (ks := [1, 2, 3, 5, 45]) (hs := [.no, .call [(.agg [(di p_r.Steep), (L58 x13)])] (vb x14)]) [(1, .ref 0 0), (2, vi c11.1), (3, vi c4), (5, .ref 1 0), (45, vb (!x14))] [.cells [vi p_r.Steep, .d (L58 p_r.Points)], .cells [vi p_r.Steep, .d (L58 x13)]] [PCall Try.prog 54 [(.agg [(di p_r.Steep), (L58 x13)])] (vb x14)] (by kernel_rfl) (ct54 hx14) ?_
            refine awp_cond (b := (!x14)) (by kernel_rfl) (fun hb15 => ?_) (fun hb15 => ?_)
            · rw [if_pos hb15] at h
              refine awp_sreg tt_ok (ks := [2, 3, 4]) (hs := []) [(2, vi c11.1), (3, vi c4), (4, vi 0)] [.cells [vi p_r.Steep, .d (L58 p_r.Points)], .cells [vi p_r.Steep, .d (L58 x13)]] [] (by kernel_rfl) trivial ?_
              obtain rfl := Option.some.inj h
              refine awp_wk 2 [2, 3, 4] (by kernel_rfl) [(2, vi c11.1), (3, vi c4), (4, vi 0)] [.cells [vi p_r.Steep, .d (L58 p_r.Points)], .cells [vi p_r.Steep, .d (L58 x13)]] (by kernel_rfl) (by kernel_rfl) ?_
              exact awp_ret (Sel.mk [] [2, 3, 4] (by kernel_rfl) (by kernel_rfl) (by kernel_rfl) OutQ.ret)
            · rw [if_neg (ntrue hb15)] at h
              refine awp_skip ?_
              show awp _ _ _ _ _ _ _ _
              refine awp_region (T' := [(1, .ref 0 0), (2, vi (w64 (c11.1 - 1))), (3, vi c4), (5, .ref 1 0)]) (H' := [.cells [vi p_r.Steep, .d (L58 p_r.Points)], .cells [vi p_r.Steep, .d (L58 x13)]]) (ps := []) tt_ok (ks := [1, 2, 3, 5]) (hs := []) (by kernel_rfl) trivial ?_
              exact awpN_wk 2 [1, 2, 3, 5] (by kernel_rfl) _ _ (by kernel_rfl) (by kernel_rfl) (hrn12 ((w64 (c11.1 - 1)), x13) h)
          · intro e T H hq
            cases o10 with
            | inl ro10 =>
              obtain ⟨rfl, rfl, rfl⟩ := hq
              rw [outK_inl] at h
              obtain rfl := Option.some.inj h
              exact Sel.mk [] [2, 3, 4] (by kernel_rfl) (by kernel_rfl) (by kernel_rfl) OutQ.ret
            | inr so10 =>
              rw [outK_inr] at h
              exact absurd h (by simp)
      · rw [if_neg (ntrue hb6)] at h
        refine awp_exit ?_
        obtain rfl := Option.some.inj h
        exact Sel.mk [0] [] (by kernel_rfl) (by kernel_rfl) (by kernel_rfl) OutQ.norm
    · intro e T H hq
      cases o3 with
      | inl ro3 =>
        obtain ⟨rfl, rfl, rfl⟩ := hq
        rw [outK_inl] at h
        obtain rfl := Option.some.inj h
        exact main_ret (by kernel_rfl)
      | inr so3 =>
        obtain ⟨rfl, rfl, rfl⟩ := hq
        rw [outK_inr] at h
        show awp _ _ _ _ _ _ _ _
        refine awp_sreg tt_ok (ks := [2, 3, 4]) (hs := []) [(2, vi 0), (3, vi 0), (4, vi 4)] [.cells [vi p_r.Steep, .d (L58 p_r.Points)]] [] (by kernel_rfl) trivial ?_
        obtain rfl := Option.some.inj h
        refine awp_wk 1 [2, 3, 4] (by kernel_rfl) [(2, vi 0), (3, vi 0), (4, vi 4)] [.cells [vi p_r.Steep, .d (L58 p_r.Points)]] (by kernel_rfl) (by kernel_rfl) ?_
        exact awp_ret (main_ret (by kernel_rfl))

set_option maxRecDepth 100000 in
theorem ct57 {fuel : Nat}  {steep : Int} {b0x0 : Int} {b0x1 : List S_api_CvPoint} {res : Bool} (h : F57 fuel steep b0x0 b0x1 = some res) : HCall Try.prog 57 [vi steep, .ref 0 0] [.cells [vi b0x0, .d (L58 b0x1)]] (vb res) [.cells [vi b0x0, .d (L58 b0x1)]] := by
  refine HCall.of_awpS tt_ok (N := 12) (fl := 1) Try.func57 rfl (by kernel_rfl) rfl rfl (Nat.le_of_ble_eq_true rfl) ?_
  unfold F57 at h
  refine awp_sreg tt_ok (ks := [0, 1]) (hs := []) [(0, vi steep), (1, .ref 0 0)] [.cells [vi b0x0, .d (L58 b0x1)]] [] (by kernel_rfl) trivial ?_
  refine awp_sreg tt_ok (ks := [0, 4]) (hs := []) [(0, vi steep), (4, .ref 1 0)] [.cells [vi b0x0, .d (L58 b0x1)], .cells [vi b0x0, .d (L58 b0x1)]] [] (by kernel_rfl) trivial ?_
  refine awp_sreg tt_ok (ks := [4]) (hs := []) [(4, .ref 1 0)] [.cells [vi b0x0, .d (L58 b0x1)], .cells [vi steep, .d (L58 b0x1)]] [] (by kernel_rfl) trivial ?_
  obtain ⟨x1, hx1, h⟩ := Option.bind_eq_some_iff.1 h
  refine awp_sreg tt_ok (ks := [3]) (hs := [.no, .call [(.agg [(di steep), (L58 b0x1)])] (vb x1)]) [(3, vb x1)] [.cells [vi b0x0, .d (L58 b0x1)], .cells [vi steep, .d (L58 b0x1)]] [PCall Try.prog 54 [(.agg [(di steep), (L58 b0x1)])] (vb x1)] (by kernel_rfl) (ct54 hx1) ?_
  obtain rfl := Option.some.inj h
  refine awp_wk 2 [3] (by kernel_rfl) [(3, vb x1)] [.cells [vi b0x0, .d (L58 b0x1)], .cells [vi steep, .d (L58 b0x1)]] (by kernel_rfl) (by kernel_rfl) ?_
  exact awp_ret (main_retS [0] (vb x1) (by kernel_rfl) (by kernel_rfl) (by kernel_rfl) (by kernel_rfl))

set_option maxRecDepth 100000 in
theorem ct56 {fuel : Nat}  {last : Int} {b0x0 : Int} {b0x1 : List S_api_CvPoint} {res : Int} (h : F56 fuel last b0x0 b0x1 = some res) : HCall Try.prog 56 [vi last, .fn (.func 57) [] [.ref 0 0]] [.cells [vi b0x0, .d (L58 b0x1)]] (vi res) [.cells [vi b0x0, .d (L58 b0x1)]] := by
  refine HCall.of_awpS tt_ok (N := 24) (fl := 1) Try.func56 rfl (by kernel_rfl) rfl rfl (Nat.le_of_ble_eq_true rfl) ?_
  unfold F56 at h
  refine awp_sreg tt_ok (ks := [0, 1]) (hs := []) [(0, vi last), (1, .fn (.func 57) [] [.ref 0 0])] [.cells [vi b0x0, .d (L58 b0x1)]] [] (by kernel_rfl) trivial ?_
  refine awp_sreg tt_ok (ks := [1, 5, 6]) (hs := []) [(1, .fn (.func 57) [] [.ref 0 0]), (5, vi 0), (6, vi last)] [.cells [vi b0x0, .d (L58 b0x1)]] [] (by kernel_rfl) trivial ?_
  refine awp_seq ?_
  obtain ⟨o1, ho1, h⟩ := Option.bind_eq_some_iff.1 h
  refine awp_cut1 (OutQ (fun (ro1 : Int) => [(4, vi ro1)]) (fun (ro1 : Int) => [.cells [vi b0x0, .d (L58 b0x1)]]) (fun (so1 : Int) => [(5, vi so1)]) (fun (so1 : Int) => [.cells [vi b0x0, .d (L58 b0x1)]]) o1) ?_ ?_
  · clear h
    have h := ho1
    clear ho1
    refine awp_selQ ?_
    refine awp_wk 1 [1, 5, 6] (by kernel_rfl) [(1, .fn (.func 57) [] [.ref 0 0]), (5, vi 0), (6, vi last)] [.cells [vi b0x0, .d (L58 b0x1)]] (by kernel_rfl) (by kernel_rfl) ?_
    refine awp_block ?_
    refine awp_loop (n := fuel) ?_
    refine awpN_ind (fun n (c2 : Int × Int) => F56L1 fuel b0x0 b0x1 n c2) o1 (fun (c2 : Int × Int) => [(1, .fn (.func 57) [] [.ref 0 0]), (5, vi c2.1), (6, vi c2.2)]) (fun (c2 : Int × Int) => [.cells [vi b0x0, .d (L58 b0x1)]]) (fun _ => rfl) ?_ fuel (0, last) h
    clear h
    intro n3 c2 h hrn3
    change F56L1 fuel b0x0 b0x1 (n3 + 1) c2 = some o1 at h
    rw [F56L1] at h
    refine awp_seq ?_
    refine awp_sreg tt_ok (ks := [1, 5, 6, 12]) (hs := []) [(1, .fn (.func 57) [] [.ref 0 0]), (5, vi c2.1), (6, vi c2.2), (12, vb (decide (c2.1 < c2.2)))] [.cells [vi b0x0, .d (L58 b0x1)]] [] (by kernel_rfl) trivial ?_
    refine awp_cond (b := (decide (c2.1 < c2.2))) (by kernel_rfl) (fun hb4 => ?_) (fun hb4 => ?_)
    · rw [if_pos hb4] at h
      refine awp_skip ?_
      show awp _ _ _ _ _ _ _ _
      refine awp_block ?_
      refine awp_sreg tt_ok (ks := [1, 5, 6, 7]) (hs := []) [(1, .fn (.func 57) [] [.ref 0 0]), (5, vi c2.1), (6, vi c2.2), (7, vi (w64 ((w64 (c2.1 + c2.2)).tdiv 2)))] [.cells [vi b0x0, .d (L58 b0x1)]] [((2 : Int) ≠ 0)] (by kernel_rfl) ((by decide : (2 : Int) ≠ 0)) ?_
      obtain ⟨x5, hx5, h⟩ := Option.bind_eq_some_iff.1 h
      refine awp_sreg tt_ok (ks := [1, 5, 6, 7, 19]) (hs := [.no, .no, .hcall [(0, false)] (vb x5) [.cells [vi b0x0, .d (L58 b0x1)]]]) [(1, .fn (.func 57) [] [.ref 0 0]), (5, vi c2.1), (6, vi c2.2), (7, vi (w64 ((w64 (c2.1 + c2.2)).tdiv 2))), (19, vb x5)] [.cells [vi b0x0, .d (L58 b0x1)]] [HCall Try.prog 57 [vi (w64 ((w64 (c2.1 + c2.2)).tdiv 2)), .ref 0 0] [.cells [vi b0x0, .d (L58 b0x1)]] (vb x5) [.cells [vi b0x0, .d (L58 b0x1)]]] (by kernel_rfl) (ct57 hx5) ?_
      refine awp_cond (b := x5) (by kernel_rfl) (fun hb6 => ?_) (fun hb6 => ?_)
      · rw [if_pos hb6] at h
        refine awp_region (T' := [(1, .fn (.func 57) [] [.ref 0 0]), (5, vi c2.1), (6, vi (w64 ((w64 (c2.1 + c2.2)).tdiv 2)))]) (H' := [.cells [vi b0x0, .d (L58 b0x1)]]) (ps := []) tt_ok (ks := [1, 5, 6]) (hs := []) (by kernel_rfl) trivial ?_
        exact awpN_wk 1 [1, 5, 6] (by kernel_rfl) _ _ (by kernel_rfl) (by kernel_rfl) (hrn3 (c2.1, (w64 ((w64 (c2.1 + c2.2)).tdiv 2))) h)
      · rw [if_neg (ntrue hb6)] at h
        refine awp_region (T' := [(1, .fn (.func 57) [] [.ref 0 0]), (5, vi (w64 ((w64 ((w64 (c2.1 + c2.2)).tdiv 2)) + 1))), (6, vi c2.2)]) (H' := [.cells [vi b0x0, .d (L58 b0x1)]]) (ps := []) tt_ok (ks := [1, 5, 6]) (hs := []) (by kernel_rfl) trivial ?_
        exact awpN_wk 1 [1, 5, 6] (by kernel_rfl) _ _ (by kernel_rfl) (by kernel_rfl) (hrn3 ((w64 ((w64 ((w64 (c2.1 + c2.2)).tdiv 2)) + 1)), c2.2) h)
    · rw [if_neg (ntrue hb4)] at h
      refine awp_exit ?_
      obtain rfl := Option.some.inj h
      exact Sel.mk [0] [5] (by kernel_rfl) (by kernel_rfl) (by kernel_rfl) OutQ.norm
  · intro e T H hq
    cases o1 with
    | inl ro1 =>
      obtain ⟨rfl, rfl, rfl⟩ := hq
      rw [outK_inl] at h
      obtain rfl := Option.some.inj h
      exact (main_retS [0] (vi ro1) (by kernel_rfl) (by kernel_rfl) (by kernel_rfl) (by kernel_rfl))
    | inr so1 =>
      obtain ⟨rfl, rfl, rfl⟩ := hq
      rw [outK_inr] at h
      show awp _ _ _ _ _ _ _ _
      refine awp_sreg tt_ok (ks := [4]) (hs := []) [(4, vi so1)] [.cells [vi b0x0, .d (L58 b0x1)]] [] (by kernel_rfl) trivial ?_
      obtain rfl := Option.some.inj h
      refine awp_wk 1 [4] (by kernel_rfl) [(4, vi so1)] [.cells [vi b0x0, .d (L58 b0x1)]] (by kernel_rfl) (by kernel_rfl) ?_
      exact awp_ret (main_retS [0] (vi so1) (by kernel_rfl) (by kernel_rfl) (by kernel_rfl) (by kernel_rfl))

set_option maxRecDepth 100000 in
theorem ct23 {fuel : Nat}  {p_r : S_api_CvRow} {res : Int × Int} (h : F23 fuel p_r = some res) : PCall Try.prog 23 [(.agg [(di p_r.Steep), (L58 p_r.Points)])] (.tup [vi res.1, vi res.2]) := by
  refine PCall.of_awp tt_ok (N := 18) Try.func23 rfl (by kernel_rfl) rfl (Nat.le_of_ble_eq_true rfl) rfl ?_
  unfold F23 at h
  refine awp_sreg tt_ok (ks := [1]) (hs := []) [(1, .ref 0 0)] [.cells [vi p_r.Steep, .d (L58 p_r.Points)]] [] (by kernel_rfl) trivial ?_
  refine awp_seq ?_
  obtain ⟨x1, hx1, h⟩ := Option.bind_eq_some_iff.1 h
  refine awp_sreg tt_ok (ks := [1, 6]) (hs := [.no, .call [(.agg [(di p_r.Steep), (L58 p_r.Points)])] (.tup [vi x1.1, vi x1.2.1, vi x1.2.2])]) [(1, .ref 0 0), (6, vi x1.2.2)] [.cells [vi p_r.Steep, .d (L58 p_r.Points)]] [PCall Try.prog 16 [(.agg [(di p_r.Steep), (L58 p_r.Points)])] (.tup [vi x1.1, vi x1.2.1, vi x1.2.2])] (by kernel_rfl) (ct16 hx1) ?_
  refine awp_sreg tt_ok (ks := [1, 6, 14]) (hs := []) [(1, .ref 0 0), (6, vi x1.2.2), (14, vb (x1.2.2 != 0))] [.cells [vi p_r.Steep, .d (L58 p_r.Points)]] [] (by kernel_rfl) trivial ?_
  refine awp_cond (b := (x1.2.2 != 0)) (by kernel_rfl) (fun hb2 => ?_) (fun hb2 => ?_)
  · rw [if_pos hb2] at h
    refine awp_sreg tt_ok (ks := [2, 3]) (hs := []) [(2, vi 0), (3, vi x1.2.2)] [.cells [vi p_r.Steep, .d (L58 p_r.Points)]] [] (by kernel_rfl) trivial ?_
    obtain rfl := Option.some.inj h
    refine awp_wk 1 [2, 3] (by kernel_rfl) [(2, vi 0), (3, vi x1.2.2)] [.cells [vi p_r.Steep, .d (L58 p_r.Points)]] (by kernel_rfl) (by kernel_rfl) ?_
    exact awp_ret (main_ret (by kernel_rfl))
  · rw [if_neg (ntrue hb2)] at h
    refine awp_skip ?_
    show awp _ _ _ _ _ _ _ _
    obtain ⟨x3, hx3, h⟩ := Option.bind_eq_some_iff.1 h
    refine awp_sreg tt_ok (ks := [2, 3]) (hs := [.no, .hcall [(0, false)] (vi x3) [.cells [vi p_r.Steep, .d (L58 p_r.Points)]]]) [(2, vi x3), (3, vi 0)] [.cells [vi p_r.Steep, .d (L58 p_r.Points)]] [HCall Try.prog 56 [vi 9000, .fn (.func 57) [] [.ref 0 0]] [.cells [vi p_r.Steep, .d (L58 p_r.Points)]] (vi x3) [.cells [vi p_r.Steep, .d (L58 p_r.Points)]]] (by kernel_rfl) (ct56 hx3) ?_
    obtain rfl := Option.some.inj h
    refine awp_wk 1 [2, 3] (by kernel_rfl) [(2, vi x3), (3, vi 0)] [.cells [vi p_r.Steep, .d (L58 p_r.Points)]] (by kernel_rfl) (by kernel_rfl) ?_
    exact awp_ret (main_ret (by kernel_rfl))

set_option maxRecDepth 100000 in
theorem ct28 {fuel : Nat}  {p_r : S_api_CvRow} {surface : (List Int)} {res : Int × Int} (h : F28 fuel p_r surface = some res) : PCall Try.prog 28 [(.agg [(di p_r.Steep), (L58 p_r.Points)]), (L3 surface)] (.tup [vi res.1, vi res.2]) := by
  refine PCall.of_awp tt_ok (N := 39) Try.func28 rfl (by kernel_rfl) rfl (Nat.le_of_ble_eq_true rfl) rfl ?_
  unfold F28 at h
  refine awp_sreg tt_ok (ks := [1, 2, 4]) (hs := []) [(1, .d (L3 surface)), (2, .ref 0 0), (4, vi 0)] [.cells [vi p_r.Steep, .d (L58 p_r.Points)]] [] (by kernel_rfl) trivial ?_
  obtain ⟨x1, hx1, h⟩ := Option.bind_eq_some_iff.1 h
  refine awp_sreg tt_ok (ks := [1, 4, 5, 6]) (hs := [.no, .no, .call [(.agg [(di p_r.Steep), (L58 p_r.Points)]), (L3 surface)] (.tup [.d (.agg [(di x1.1.CvRow.Steep), (L58 x1.1.CvRow.Points)]), vi x1.2])]) [(1, .d (L3 surface)), (4, vi 0), (5, vi x1.2), (6, .ref 1 0)] [.cells [vi p_r.Steep, .d (L58 p_r.Points)], .cells [vi x1.1.CvRow.Steep, .d (L58 x1.1.CvRow.Points)]] [PCall Try.prog 59 [(.agg [(di p_r.Steep), (L58 p_r.Points)]), (L3 surface)] (.tup [.d (.agg [(di x1.1.CvRow.Steep), (L58 x1.1.CvRow.Points)]), vi x1.2])] (by kernel_rfl) (ct59 hx1) ?_
  refine awp_seq ?_
  refine awp_sreg tt_ok (ks := [1, 4, 5, 6, 16]) (hs := []) [(1, .d (L3 surface)), (4, vi 0), (5, vi x1.2), (6, .ref 1 0), (16, vb (x1.2 != 0))] [.cells [vi p_r.Steep, .d (L58 p_r.Points)], .cells [vi x1.1.CvRow.Steep, .d (L58 x1.1.CvRow.Points)]] [] (by kernel_rfl) trivial ?_
  refine awp_cond (b := (x1.2 != 0)) (by kernel_rfl) (fun hb2 => ?_) (fun hb2 => ?_)
  · rw [if_pos hb2] at h
    refine awp_sreg tt_ok (ks := [4, 5]) (hs := []) [(4, vi 0), (5, vi x1.2)] [.cells [vi p_r.Steep, .d (L58 p_r.Points)], .cells [vi x1.1.CvRow.Steep, .d (L58 x1.1.CvRow.Points)]] [] (by kernel_rfl) trivial ?_
    obtain rfl := Option.some.inj h
    refine awp_wk 2 [4, 5] (by kernel_rfl) [(4, vi 0), (5, vi x1.2)] [.cells [vi p_r.Steep, .d (L58 p_r.Points)], .cells [vi x1.1.CvRow.Steep, .d (L58 x1.1.CvRow.Points)]] (by kernel_rfl) (by kernel_rfl) ?_
    exact awp_ret (main_ret (by kernel_rfl))
  · rw [if_neg (ntrue hb2)] at h
    refine awp_skip ?_
    show awp _ _ _ _ _ _ _ _
    refine awp_seq ?_
    refine awp_sreg tt_ok (ks := [1, 4, 20, 21, 22]) (hs := []) [(1, .d (L3 surface)), (4, vi 0), (20, .d (L58 x1.1.CvRow.Points)), (21, vi (x1.1.CvRow.Points.length : Int)), (22, vi 0)] [.cells [vi p_r.Steep, .d (L58 p_r.Points)], .cells [vi x1.1.CvRow.Steep, .d (L58 x1.1.CvRow.Points)]] [] (by kernel_rfl) trivial ?_
    obtain ⟨o3, ho3, h⟩ := Option.bind_eq_some_iff.1 h
    refine awp_cut1 (OutQ (fun (ro3 : Int × Int) => [(4, vi ro3.1), (5, vi ro3.2)]) (fun (ro3 : Int × Int) => []) (fun (so3 : Int) => [(4, vi so3)]) (fun (so3 : Int) => [.cells [vi p_r.Steep, .d (L58 p_r.Points)], .cells [vi x1.1.CvRow.Steep, .d (L58 x1.1.CvRow.Points)]]) o3) ?_ ?_
    · clear h
      have h := ho3
      clear ho3
      refine awp_selQ ?_
      refine awp_wk 2 [1, 4, 20, 21, 22] (by kernel_rfl) [(1, .d (L3 surface)), (4, vi 0), (20, .d (L58 x1.1.CvRow.Points)), (21, vi (x1.1.CvRow.Points.length : Int)), (22, vi 0)] [.cells [vi p_r.Steep, .d (L58 p_r.Points)], .cells [vi x1.1.CvRow.Steep, .d (L58 x1.1.CvRow.Points)]] (by kernel_rfl) (by kernel_rfl) ?_
      refine awp_block ?_
      refine awp_loop (n := fuel) ?_
      refine awpN_ind (fun n (c4 : Int × Int) => F28L1 surface x1 n c4) o3 (fun (c4 : Int × Int) => [(1, .d (L3 surface)), (4, vi c4.1), (20, .d (L58 x1.1.CvRow.Points)), (21, vi (x1.1.CvRow.Points.length : Int)), (22, vi c4.2)]) (fun (c4 : Int × Int) => [.cells [vi p_r.Steep, .d (L58 p_r.Points)], .cells [vi x1.1.CvRow.Steep, .d (L58 x1.1.CvRow.Points)]]) (fun _ => rfl) ?_ fuel (0, 0) h
      clear h
      intro n5 c4 h hrn5
      change F28L1 surface x1 (n5 + 1) c4 = some o3 at h
      rw [F28L1] at h
      refine awp_sreg tt_ok (ks := [1, 4, 20, 21, 22, 23]) (hs := []) [(1, .d (L3 surface)), (4, vi c4.1), (20, .d (L58 x1.1.CvRow.Points)), (21, vi (x1.1.CvRow.Points.length : Int)), (22, vi c4.2), (23, vb (decide (c4.2 < (x1.1.CvRow.Points.length : Int))))] [.cells [vi p_r.Steep, .d (L58 p_r.Points)], .cells [vi x1.1.CvRow.Steep, .d (L58 x1.1.CvRow.Points)]] [] (by kernel_rfl) trivial ?_
      refine awp_seq ?_
      refine awp_cond (b := (decide (c4.2 < (x1.1.CvRow.Points.length : Int)))) (by kernel_rfl) (fun hb6 => ?_) (fun hb6 => ?_)
      · rw [if_pos hb6] at h
        refine awp_skip ?_
        show awp _ _ _ _ _ _ _ _
        refine awp_seq ?_
        refine awp_block ?_
        obtain ⟨x7, hx7, h⟩ := Option.bind_eq_some_iff.1 h
        refine awp_sreg tt_ok (ks := [1, 4, 7, 8, 20, 21, 22]) (hs := [.no, .cells (cel58 x7)]) [(1, .d (L3 surface)), (4, vi c4.1), (7, vi c4.2), (8, .ref 2 0), (20, .d (L58 x1.1.CvRow.Points)), (21, vi (x1.1.CvRow.Points.length : Int)), (22, vi c4.2)] [.cells [vi p_r.Steep, .d (L58 p_r.Points)], .cells [vi x1.1.CvRow.Steep, .d (L58 x1.1.CvRow.Points)], .cells [vi x7.Board, vi x7.Lo, vi x7.Hi]] [IX58 x1.1.CvRow.Points c4.2 x7] (by kernel_rfl) (idxOk cel58_len hx7) ?_
        obtain ⟨x8, hx8, h⟩ := Option.bind_eq_some_iff.1 h
        refine awp_draw (T' := [(1, .d (L3 surface)), (4, vi (w64 (c4.1 + (if (w64 (x8 - x7.Board)) > 0 then (w64 (x8 - x7.Board)) else 0)))), (20, .d (L58 x1.1.CvRow.Points)), (21, vi (x1.1.CvRow.Points.length : Int)), (22, vi c4.2)]) (H' := [.cells [vi p_r.Steep, .d (L58 p_r.Points)], .cells [vi x1.1.CvRow.Steep, .d (L58 x1.1.CvRow.Points)], .cells [vi x7.Board, vi x7.Lo, vi x7.Hi]]) (ps := [IX3 surface c4.2 x8]) tt_ok mixed (ks := [1, 4, 20, 21, 22]) (hs := [.no, .no, .no, .cells (cel3 x8)]) (m := 9) (mid := [1, 4, 20, 21, 22, 27, 35, 36]) (by kernel_rfl) (idxOk cel3_len hx8) ?_
        show awp _ _ _ _ _ _ _ _
        refine awp_region (T' := [(1, .d (L3 surface)), (4, vi (w64 (c4.1 + (if (w64 (x8 - x7.Board)) > 0 then (w64 (x8 - x7.Board)) else 0)))), (20, .d (L58 x1.1.CvRow.Points)), (21, vi (x1.1.CvRow.Points.length : Int)), (22, vi (w64 (c4.2 + 1)))]) (H' := [.cells [vi p_r.Steep, .d (L58 p_r.Points)], .cells [vi x1.1.CvRow.Steep, .d (L58 x1.1.CvRow.Points)], .cells [vi x7.Board, vi x7.Lo, vi x7.Hi]]) (ps := []) tt_ok (ks := [1, 4, 20, 21, 22]) (hs := []) (by kernel_rfl) trivial ?_
        exact awpN_wk 2 [1, 4, 20, 21, 22] (by kernel_rfl) _ _ (by kernel_rfl) (by kernel_rfl) (hrn5 ((w64 (c4.1 + (if (w64 (x8 - x7.Board)) > 0 then (w64 (x8 - x7.Board)) else 0))), (w64 (c4.2 + 1))) h)
      · rw [if_neg (ntrue hb6)] at h
        refine awp_exit ?_
        obtain rfl := Option.some.inj h
        exact Sel.mk [0, 1] [4] (by kernel_rfl) (by kernel_rfl) (by kernel_rfl) OutQ.norm
    · intro e T H hq
      cases o3 with
      | inl ro3 =>
        obtain ⟨rfl, rfl, rfl⟩ := hq
        rw [outK_inl] at h
        obtain rfl := Option.some.inj h
        exact main_ret (by kernel_rfl)
      | inr so3 =>
        obtain ⟨rfl, rfl, rfl⟩ := hq
        rw [outK_inr] at h
        show awp _ _ _ _ _ _ _ _
        refine awp_sreg tt_ok (ks := [4, 5]) (hs := []) [(4, vi so3), (5, vi 0)] [.cells [vi p_r.Steep, .d (L58 p_r.Points)], .cells [vi x1.1.CvRow.Steep, .d (L58 x1.1.CvRow.Points)]] [] (by kernel_rfl) trivial ?_
        obtain rfl := Option.some.inj h
        refine awp_wk 2 [4, 5] (by kernel_rfl) [(4, vi so3), (5, vi 0)] [.cells [vi p_r.Steep, .d (L58 p_r.Points)], .cells [vi x1.1.CvRow.Steep, .d (L58 x1.1.CvRow.Points)]] (by kernel_rfl) (by kernel_rfl) ?_
        exact awp_ret (main_ret (by kernel_rfl))

set_option maxRecDepth 100000 in
theorem ct62 {fuel : Nat}  {p_x : (List Int)} {res : Int} (h : F62 fuel p_x = some res) : PCall Try.prog 62 [(L3 p_x)] (vi res) := by
  refine PCall.of_awp tt_ok (N := 25) Try.func62 rfl (by kernel_rfl) rfl (Nat.le_of_ble_eq_true rfl) rfl ?_
  unfold F62 at h
  refine awp_sreg tt_ok (ks := [0]) (hs := []) [(0, .d (L3 p_x))] [] [] (by kernel_rfl) trivial ?_
  refine awp_seq ?_
  refine awp_sreg tt_ok (ks := [0, 7]) (hs := []) [(0, .d (L3 p_x)), (7, vb (decide ((p_x.length : Int) < 1)))] [] [] (by kernel_rfl) trivial ?_
  refine awp_cond (b := (decide ((p_x.length : Int) < 1))) (by kernel_rfl) (fun hb1 => ?_) (fun hb1 => ?_)
  · rw [if_pos hb1] at h
    exact absurd h (by simp)
  · rw [if_neg (ntrue hb1)] at h
    refine awp_skip ?_
    show awp _ _ _ _ _ _ _ _
    obtain ⟨x2, hx2, h⟩ := Option.bind_eq_some_iff.1 h
    refine awp_sreg tt_ok (ks := [0, 3]) (hs := [.no, .cells (cel3 x2)]) [(0, .d (L3 p_x)), (3, vi x2)] [] [IX3 p_x 0 x2] (by kernel_rfl) (idxOk cel3_len hx2) ?_
    refine awp_seq ?_
    refine awp_sreg tt_ok (ks := [0, 3, 4]) (hs := []) [(0, .d (L3 p_x)), (3, vi x2), (4, vi 1)] [] [] (by kernel_rfl) trivial ?_
    obtain ⟨o3, ho3, h⟩ := Option.bind_eq_some_iff.1 h
    refine awp_cut1 (OutQ (fun (ro3 : Int) => [(2, vi ro3)]) (fun (ro3 : Int) => []) (fun (so3 : Int) => [(3, vi so3)]) (fun (so3 : Int) => []) o3) ?_ ?_
    · clear h
      have h := ho3
      clear ho3
      refine awp_selQ ?_
      refine awp_wk 0 [0, 3, 4] (by kernel_rfl) [(0, .d (L3 p_x)), (3, vi x2), (4, vi 1)] [] (by kernel_rfl) (by kernel_rfl) ?_
      refine awp_block ?_
      refine awp_loop (n := fuel) ?_
      refine awpN_ind (fun n (c4 : Int × Int) => F62L1 p_x n c4) o3 (fun (c4 : Int × Int) => [(0, .d (L3 p_x)), (3, vi c4.1), (4, vi c4.2)]) (fun (c4 : Int × Int) => []) (fun _ => rfl) ?_ fuel (x2, 1) h
      clear h
      intro n5 c4 h hrn5
      change F62L1 p_x (n5 + 1) c4 = some o3 at h
      rw [F62L1] at h
      refine awp_seq ?_
      refine awp_sreg tt_ok (ks := [0, 3, 4, 15]) (hs := []) [(0, .d (L3 p_x)), (3, vi c4.1), (4, vi c4.2), (15, vb (decide (c4.2 < (p_x.length : Int))))] [] [] (by kernel_rfl) trivial ?_
      refine awp_cond (b := (decide (c4.2 < (p_x.length : Int)))) (by kernel_rfl) (fun hb6 => ?_) (fun hb6 => ?_)
      · rw [if_pos hb6] at h
        refine awp_skip ?_
        show awp _ _ _ _ _ _ _ _
        refine awp_seq ?_
        refine awp_block ?_
        obtain ⟨x7, hx7, h⟩ := Option.bind_eq_some_iff.1 h
        refine awp_region (T' := [(0, .d (L3 p_x)), (3, vi (if x7 > c4.1 then x7 else c4.1)), (4, vi c4.2)]) (H' := []) (ps := [IX3 p_x c4.2 x7]) tt_ok (ks := [0, 3, 4]) (hs := [.no, .no, .no, .cells (cel3 x7)]) (by kernel_rfl) (idxOk cel3_len hx7) ?_
        show awp _ _ _ _ _ _ _ _
        refine awp_region (T' := [(0, .d (L3 p_x)), (3, vi (if x7 > c4.1 then x7 else c4.1)), (4, vi (w64 (c4.2 + 1)))]) (H' := []) (ps := []) tt_ok (ks := [0, 3, 4]) (hs := []) (by kernel_rfl) trivial ?_
        exact awpN_wk 0 [0, 3, 4] (by kernel_rfl) _ _ (by kernel_rfl) (by kernel_rfl) (hrn5 ((if x7 > c4.1 then x7 else c4.1), (w64 (c4.2 + 1))) h)
      · rw [if_neg (ntrue hb6)] at h
        refine awp_exit ?_
        obtain rfl := Option.some.inj h
        exact Sel.mk [] [3] (by kernel_rfl) (by kernel_rfl) (by kernel_rfl) OutQ.norm
    · intro e T H hq
      cases o3 with
      | inl ro3 =>
        obtain ⟨rfl, rfl, rfl⟩ := hq
        rw [outK_inl] at h
        obtain rfl := Option.some.inj h
        exact main_ret (by kernel_rfl)
      | inr so3 =>
        obtain ⟨rfl, rfl, rfl⟩ := hq
        rw [outK_inr] at h
        show awp _ _ _ _ _ _ _ _
        refine awp_sreg tt_ok (ks := [2]) (hs := []) [(2, vi so3)] [] [] (by kernel_rfl) trivial ?_
        obtain rfl := Option.some.inj h
        refine awp_wk 0 [2] (by kernel_rfl) [(2, vi so3)] [] (by kernel_rfl) (by kernel_rfl) ?_
        exact awp_ret (main_ret (by kernel_rfl))

set_option maxRecDepth 100000 in
theorem ct30 {fuel : Nat}  {p_r : S_api_CvRow} {surface : (List Int)} {res : (List S_api_CvPass) × Int} (h : F30 fuel p_r surface = some res) : PCall Try.prog 30 [(.agg [(di p_r.Steep), (L58 p_r.Points)]), (L3 surface)] (.tup [.d (L84 res.1), vi res.2]) := by
  refine PCall.of_awp tt_ok (N := 105) Try.func30 rfl (by kernel_rfl) rfl (Nat.le_of_ble_eq_true rfl) rfl ?_
  unfold F30 at h
  refine awp_sreg tt_ok (ks := [1, 2, 4]) (hs := []) [(1, .d (L3 surface)), (2, .ref 0 0), (4, .d dnil)] [.cells [vi p_r.Steep, .d (L58 p_r.Points)]] [] (by kernel_rfl) trivial ?_
  obtain ⟨x1, hx1, h⟩ := Option.bind_eq_some_iff.1 h
  refine awp_sreg tt_ok (ks := [1, 2, 4, 5, 6]) (hs := [.no, .no, .call [(.agg [(di p_r.Steep), (L58 p_r.Points)]), (L3 surface)] (.tup [.d (.agg [(di x1.1.CvRow.Steep), (L58 x1.1.CvRow.Points)]), vi x1.2])]) [(1, .d (L3 surface)), (2, .ref 0 0), (4, .d dnil), (5, vi x1.2), (6, .ref 1 0)] [.cells [vi p_r.Steep, .d (L58 p_r.Points)], .cells [vi x1.1.CvRow.Steep, .d (L58 x1.1.CvRow.Points)]] [PCall Try.prog 59 [(.agg [(di p_r.Steep), (L58 p_r.Points)]), (L3 surface)] (.tup [.d (.agg [(di x1.1.CvRow.Steep), (L58 x1.1.CvRow.Points)]), vi x1.2])] (by kernel_rfl) (ct59 hx1) ?_
  refine awp_seq ?_
  refine awp_sreg tt_ok (ks := [1, 2, 4, 5, 6, 23]) (hs := []) [(1, .d (L3 surface)), (2, .ref 0 0), (4, .d dnil), (5, vi x1.2), (6, .ref 1 0), (23, vb (x1.2 != 0))] [.cells [vi p_r.Steep, .d (L58 p_r.Points)], .cells [vi x1.1.CvRow.Steep, .d (L58 x1.1.CvRow.Points)]] [] (by kernel_rfl) trivial ?_
  refine awp_cond (b := (x1.2 != 0)) (by kernel_rfl) (fun hb2 => ?_) (fun hb2 => ?_)
  · rw [if_pos hb2] at h
    refine awp_sreg tt_ok (ks := [4, 5]) (hs := []) [(4, .d dnil), (5, vi x1.2)] [.cells [vi p_r.Steep, .d (L58 p_r.Points)], .cells [vi x1.1.CvRow.Steep, .d (L58 x1.1.CvRow.Points)]] [] (by kernel_rfl) trivial ?_
    obtain rfl := Option.some.inj h
    refine awp_wk 2 [4, 5] (by kernel_rfl) [(4, .d dnil), (5, vi x1.2)] [.cells [vi p_r.Steep, .d (L58 p_r.Points)], .cells [vi x1.1.CvRow.Steep, .d (L58 x1.1.CvRow.Points)]] (by kernel_rfl) (by kernel_rfl) ?_
    refine awp_laxT 4 _ (L84 ([] : List S_api_CvPass)) _ (by kernel_rfl) (.nil (e := 2)) rfl ?_
    refine awp_wk 2 [4, 5] (by kernel_rfl) [(4, .d (L84 ([] : List S_api_CvPass))), (5, vi x1.2)] [.cells [vi p_r.Steep, .d (L58 p_r.Points)], .cells [vi x1.1.CvRow.Steep, .d (L58 x1.1.CvRow.Points)]] (by kernel_rfl) (by kernel_rfl) ?_
    exact awp_ret (main_ret (by kernel_rfl))
  · rw [if_neg (ntrue hb2)] at h
    refine awp_skip ?_
    show awp _ _ _ _ _ _ _ _
    obtain ⟨x3, hx3, h⟩ := Option.bind_eq_some_iff.1 h
    refine awp_sreg tt_ok (ks := [1, 4, 6, 7]) (hs := [.no, .no, .no, .no, .list (List.replicate (w64 ((p_r.Points.length : Int) + 1)).toNat (0 : Int)).length ((List.replicate (w64 ((p_r.Points.length : Int) + 1)).toNat (0 : Int)).flatMap cel3)]) [(1, .d (L3 surface)), (4, .d dnil), (6, .ref 1 0), (7, .sl 1 2 0 (List.replicate (w64 ((p_r.Points.length : Int) + 1)).toNat (0 : Int)).length)] [.cells [vi p_r.Steep, .d (L58 p_r.Points)], .cells [vi x1.1.CvRow.Steep, .d (L58 x1.1.CvRow.Points)], .data ((List.replicate (w64 ((p_r.Points.length : Int) + 1)).toNat (0 : Int)).flatMap cel3)] [MakeOk (w64 ((p_r.Points.length : Int) + 1)) (w64 ((p_r.Points.length : Int) + 1)) (List.replicate (w64 ((p_r.Points.length : Int) + 1)).toNat (0 : Int)).length 8 [.int .i64 0] ((List.replicate (w64 ((p_r.Points.length : Int) + 1)).toNat (0 : Int)).flatMap cel3)] (by kernel_rfl) (makeOk rfl (need_of hx3)) ?_
    refine awp_sreg tt_ok (ks := [1, 4, 6, 7, 8, 9]) (hs := []) [(1, .d (L3 surface)), (4, .d dnil), (6, .ref 1 0), (7, .sl 1 2 0 (List.replicate (w64 ((p_r.Points.length : Int) + 1)).toNat (0 : Int)).length), (8, vi 0), (9, vi 0)] [.cells [vi p_r.Steep, .d (L58 p_r.Points)], .cells [vi x1.1.CvRow.Steep, .d (L58 x1.1.CvRow.Points)], .data ((List.replicate (w64 ((p_r.Points.length : Int) + 1)).toNat (0 : Int)).flatMap cel3)] [] (by kernel_rfl) trivial ?_
    refine awp_seq ?_
    refine awp_sreg tt_ok (ks := [1, 4, 7, 8, 9, 32, 33, 34]) (hs := []) [(1, .d (L3 surface)), (4, .d dnil), (7, .sl 1 2 0 (List.replicate (w64 ((p_r.Points.length : Int) + 1)).toNat (0 : Int)).length), (8, vi 0), (9, vi 0), (32, .d (L58 x1.1.CvRow.Points)), (33, vi (x1.1.CvRow.Points.length : Int)), (34, vi 0)] [.cells [vi p_r.Steep, .d (L58 p_r.Points)], .cells [vi x1.1.CvRow.Steep, .d (L58 x1.1.CvRow.Points)], .data ((List.replicate (w64 ((p_r.Points.length : Int) + 1)).toNat (0 : Int)).flatMap cel3)] [] (by kernel_rfl) trivial ?_
    obtain ⟨o4, ho4, h⟩ := Option.bind_eq_some_iff.1 h
    refine awp_cut1 (OutQ (fun (ro4 : (List S_api_CvPass) × Int) => [(4, .d (L84 ro4.1)), (5, vi ro4.2)]) (fun (ro4 : (List S_api_CvPass) × Int) => []) (fun (so4 : Int × (List Int)) => [(4, .d dnil), (7, .sl 1 2 0 so4.2.length), (8, vi so4.1)]) (fun (so4 : Int × (List Int)) => [.cells [vi p_r.Steep, .d (L58 p_r.Points)], .cells [vi x1.1.CvRow.Steep, .d (L58 x1.1.CvRow.Points)], .data (so4.2.flatMap cel3)]) o4) ?_ ?_
    · clear h
      have h := ho4
      clear ho4
      refine awp_selQ ?_
      refine awp_wk 3 [1, 4, 7, 8, 9, 32, 33, 34] (by kernel_rfl) [(1, .d (L3 surface)), (4, .d dnil), (7, .sl 1 2 0 (List.replicate (w64 ((p_r.Points.length : Int) + 1)).toNat (0 : Int)).length), (8, vi 0), (9, vi 0), (32, .d (L58 x1.1.CvRow.Points)), (33, vi (x1.1.CvRow.Points.length : Int)), (34, vi 0)] [.cells [vi p_r.Steep, .d (L58 p_r.Points)], .cells [vi x1.1.CvRow.Steep, .d (L58 x1.1.CvRow.Points)], .data ((List.replicate (w64 ((p_r.Points.length : Int) + 1)).toNat (0 : Int)).flatMap cel3)] (by kernel_rfl) (by kernel_rfl) ?_
      refine awp_block ?_
      refine awp_loop (n := fuel) ?_
      refine awpN_ind (fun n (c5 : Int × Int × Int × (List Int)) => F30L1 surface x1 n c5) o4 (fun (c5 : Int × Int × Int × (List Int)) => [(1, .d (L3 surface)), (4, .d dnil), (7, .sl 1 2 0 c5.2.2.2.length), (8, vi c5.1), (9, vi c5.2.1), (32, .d (L58 x1.1.CvRow.Points)), (33, vi (x1.1.CvRow.Points.length : Int)), (34, vi c5.2.2.1)]) (fun (c5 : Int × Int × Int × (List Int)) => [.cells [vi p_r.Steep, .d (L58 p_r.Points)], .cells [vi x1.1.CvRow.Steep, .d (L58 x1.1.CvRow.Points)], .data (c5.2.2.2.flatMap cel3)]) (fun _ => rfl) ?_ fuel (0, 0, 0, (List.replicate (w64 ((p_r.Points.length : Int) + 1)).toNat (0 : Int))) h
      clear h
      intro n6 c5 h hrn6
      change F30L1 surface x1 (n6 + 1) c5 = some o4 at h
      rw [F30L1] at h
      refine awp_sreg tt_ok (ks := [1, 4, 7, 8, 9, 32, 33, 34, 35]) (hs := []) [(1, .d (L3 surface)), (4, .d dnil), (7, .sl 1 2 0 c5.2.2.2.length), (8, vi c5.1), (9, vi c5.2.1), (32, .d (L58 x1.1.CvRow.Points)), (33, vi (x1.1.CvRow.Points.length : Int)), (34, vi c5.2.2.1), (35, vb (decide (c5.2.2.1 < (x1.1.CvRow.Points.length : Int))))] [.cells [vi p_r.Steep, .d (L58 p_r.Points)], .cells [vi x1.1.CvRow.Steep, .d (L58 x1.1.CvRow.Points)], .data (c5.2.2.2.flatMap cel3)] [] (by kernel_rfl) trivial ?_
      refine awp_seq ?_
      refine awp_cond (b := (decide (c5.2.2.1 < (x1.1.CvRow.Points.length : Int)))) (by kernel_rfl) (fun hb7 => ?_) (fun hb7 => ?_)
      · rw [if_pos hb7] at h
        refine awp_skip ?_
        show awp _ _ _ _ _ _ _ _
        refine awp_seq ?_
        refine awp_block ?_
        obtain ⟨x8, hx8, h⟩ := Option.bind_eq_some_iff.1 h
        refine awp_sreg tt_ok (ks := [1, 4, 7, 8, 9, 10, 11, 32, 33, 34]) (hs := [.no, .cells (cel58 x8)]) [(1, .d (L3 surface)), (4, .d dnil), (7, .sl 1 2 0 c5.2.2.2.length), (8, vi c5.1), (9, vi c5.2.1), (10, vi c5.2.2.1), (11, .ref 3 0), (32, .d (L58 x1.1.CvRow.Points)), (33, vi (x1.1.CvRow.Points.length : Int)), (34, vi c5.2.2.1)] [.cells [vi p_r.Steep, .d (L58 p_r.Points)], .cells [vi x1.1.CvRow.Steep, .d (L58 x1.1.CvRow.Points)], .data (c5.2.2.2.flatMap cel3), .cells [vi x8.Board, vi x8.Lo, vi x8.Hi]] [IX58 x1.1.CvRow.Points c5.2.2.1 x8] (by kernel_rfl) (idxOk cel58_len hx8) ?_
        obtain ⟨x9, hx9, h⟩ := Option.bind_eq_some_iff.1 h
        obtain ⟨x10, hx10, h⟩ := Option.bind_eq_some_iff.1 h
        refine awp_sdraw tt_ok mixed (ks := [1, 4, 7, 8, 9, 10, 32, 33, 34]) (hs := [.no, .no, .no, .no, .no, .no, .cells (cel3 x9), .no, .no, .no, .no, .cells ((c5.2.2.2.set c5.2.2.1.toNat (if (w64 (x8.Board - x9)) > 0 then (w64 (x8.Board - x9)) else 0)).flatMap cel3)]) 10 [1, 4, 7, 8, 9, 10, 32, 33, 34, 39, 40, 48, 49] [(1, .d (L3 surface)), (4, .d dnil), (7, .sl 1 2 0 c5.2.2.2.length), (8, vi c5.1), (9, vi c5.2.1), (10, vi c5.2.2.1), (32, .d (L58 x1.1.CvRow.Points)), (33, vi (x1.1.CvRow.Points.length : Int)), (34, vi c5.2.2.1)] [.cells [vi p_r.Steep, .d (L58 p_r.Points)], .cells [vi x1.1.CvRow.Steep, .d (L58 x1.1.CvRow.Points)], .data ((c5.2.2.2.set c5.2.2.1.toNat (if (w64 (x8.Board - x9)) > 0 then (w64 (x8.Board - x9)) else 0)).flatMap cel3), .cells [vi x8.Board, vi x8.Lo, vi x8.Hi]] [IX3 surface c5.2.2.1 x9, (0 ≤ c5.2.2.1 ∧ c5.2.2.1 < (c5.2.2.2.length : Int)), StoreOk ((c5.2.2.2.flatMap cel3).map .d) (0 + c5.2.2.1.toNat * 1) (([(di (if (w64 (x8.Board - x9)) > 0 then (w64 (x8.Board - x9)) else 0))] : List D).map .d) (((c5.2.2.2.set c5.2.2.1.toNat (if (w64 (x8.Board - x9)) > 0 then (w64 (x8.Board - x9)) else 0)).flatMap cel3).map .d)] (by kernel_rfl) (And.intro (idxOk cel3_len hx9) (And.intro (idx_bounds hx10) (storeOk (j := 0) (us := ([(di (if (w64 (x8.Board - x9)) > 0 then (w64 (x8.Board - x9)) else 0))] : List D)) (y := (if (w64 (x8.Board - x9)) > 0 then (w64 (x8.Board - x9)) else 0)) cel3_len hx10 rfl rfl (Nat.le_of_ble_eq_true rfl)))) ?_
        obtain ⟨x11, hx11, h⟩ := Option.bind_eq_some_iff.1 h
        refine awp_sreg tt_ok (ks := [1, 4, 7, 8, 10, 32, 33, 34]) (hs := [.no, .no, .no, .no, .vals (([(di x11)] : List D).map .d)]) [(1, .d (L3 surface)), (4, .d dnil), (7, .sl 1 2 0 c5.2.2.2.length), (8, vi (w64 (c5.1 + (if (w64 (x11 - c5.2.1)) > 0 then (w64 (x11 - c5.2.1)) else 0)))), (10, vi c5.2.2.1), (32, .d (L58 x1.1.CvRow.Points)), (33, vi (x1.1.CvRow.Points.length : Int)), (34, vi c5.2.2.1)] [.cells [vi p_r.Steep, .d (L58 p_r.Points)], .cells [vi x1.1.CvRow.Steep, .d (L58 x1.1.CvRow.Points)], .data ((c5.2.2.2.set c5.2.2.1.toNat (if (w64 (x8.Board - x9)) > 0 then (w64 (x8.Board - x9)) else 0)).flatMap cel3), .cells [vi x8.Board, vi x8.Lo, vi x8.Hi]] [(0 ≤ c5.2.2.1 ∧ c5.2.2.1 < (c5.2.2.2.length : Int)), LoadOk (((c5.2.2.2.set c5.2.2.1.toNat (if (w64 (x8.Board - x9)) > 0 then (w64 (x8.Board - x9)) else 0)).flatMap cel3).map .d) (0 + c5.2.2.1.toNat * 1) 1 (([(di x11)] : List D).map .d)] (by kernel_rfl) (And.intro ((by have h0 := idx_bounds hx11; simp only [List.length_set] at h0; exact h0)) (loadOk (j := 0) (es := ([(di x11)] : List D)) cel3_len hx11 rfl rfl rfl (Nat.le_of_ble_eq_true rfl))) ?_
        obtain ⟨x12, hx12, h⟩ := Option.bind_eq_some_iff.1 h
        refine awp_region (T' := [(1, .d (L3 surface)), (4, .d dnil), (7, .sl 1 2 0 c5.2.2.2.length), (8, vi (w64 (c5.1 + (if (w64 (x11 - c5.2.1)) > 0 then (w64 (x11 - c5.2.1)) else 0)))), (9, vi x12), (32, .d (L58 x1.1.CvRow.Points)), (33, vi (x1.1.CvRow.Points.length : Int)), (34, vi c5.2.2.1)]) (H' := [.cells [vi p_r.Steep, .d (L58 p_r.Points)], .cells [vi x1.1.CvRow.Steep, .d (L58 x1.1.CvRow.Points)], .data ((c5.2.2.2.set c5.2.2.1.toNat (if (w64 (x8.Board - x9)) > 0 then (w64 (x8.Board - x9)) else 0)).flatMap cel3), .cells [vi x8.Board, vi x8.Lo, vi x8.Hi]]) (ps := [(0 ≤ c5.2.2.1 ∧ c5.2.2.1 < (c5.2.2.2.length : Int)), LoadOk (((c5.2.2.2.set c5.2.2.1.toNat (if (w64 (x8.Board - x9)) > 0 then (w64 (x8.Board - x9)) else 0)).flatMap cel3).map .d) (0 + c5.2.2.1.toNat * 1) 1 (([(di x12)] : List D).map .d)]) tt_ok (ks := [1, 4, 7, 8, 9, 32, 33, 34]) (hs := [.no, .no, .no, .vals (([(di x12)] : List D).map .d)]) (by kernel_rfl) (And.intro ((by have h0 := idx_bounds hx12; simp only [List.length_set] at h0; exact h0)) (loadOk (j := 0) (es := ([(di x12)] : List D)) cel3_len hx12 rfl rfl rfl (Nat.le_of_ble_eq_true rfl))) ?_
        show awp _ _ _ _ _ _ _ _
        refine awp_region (T' := [(1, .d (L3 surface)), (4, .d dnil), (7, .sl 1 2 0 c5.2.2.2.length), (8, vi (w64 (c5.1 + (if (w64 (x11 - c5.2.1)) > 0 then (w64 (x11 - c5.2.1)) else 0)))), (9, vi x12), (32, .d (L58 x1.1.CvRow.Points)), (33, vi (x1.1.CvRow.Points.length : Int)), (34, vi (w64 (c5.2.2.1 + 1)))]) (H' := [.cells [vi p_r.Steep, .d (L58 p_r.Points)], .cells [vi x1.1.CvRow.Steep, .d (L58 x1.1.CvRow.Points)], .data ((c5.2.2.2.set c5.2.2.1.toNat (if (w64 (x8.Board - x9)) > 0 then (w64 (x8.Board - x9)) else 0)).flatMap cel3), .cells [vi x8.Board, vi x8.Lo, vi x8.Hi]]) (ps := []) tt_ok (ks := [1, 4, 7, 8, 9, 32, 33, 34]) (hs := []) (by kernel_rfl) trivial ?_
        exact awpN_wk 3 [1, 4, 7, 8, 9, 32, 33, 34] (by kernel_rfl) _ _ (by simp only [List.length_set]; kernel_rfl) (by kernel_rfl) (hrn6 ((w64 (c5.1 + (if (w64 (x11 - c5.2.1)) > 0 then (w64 (x11 - c5.2.1)) else 0))), x12, (w64 (c5.2.2.1 + 1)), (c5.2.2.2.set c5.2.2.1.toNat (if (w64 (x8.Board - x9)) > 0 then (w64 (x8.Board - x9)) else 0))) h)
      · rw [if_neg (ntrue hb7)] at h
        refine awp_exit ?_
        obtain rfl := Option.some.inj h
        exact Sel.mk [0, 1, 2] [4, 7, 8] (by kernel_rfl) (by kernel_rfl) (by kernel_rfl) OutQ.norm
    · intro e T H hq
      cases o4 with
      | inl ro4 =>
        obtain ⟨rfl, rfl, rfl⟩ := hq
        rw [outK_inl] at h
        obtain rfl := Option.some.inj h
        exact main_ret (by kernel_rfl)
      | inr so4 =>
        obtain ⟨rfl, rfl, rfl⟩ := hq
        rw [outK_inr] at h
        show awp _ _ _ _ _ _ _ _
        refine awp_seq ?_
        refine awp_sreg tt_ok (ks := [4, 7, 65]) (hs := []) [(4, .d dnil), (7, .sl 1 2 0 so4.2.length), (65, vb (decide (so4.1 > 60)))] [.cells [vi p_r.Steep, .d (L58 p_r.Points)], .cells [vi x1.1.CvRow.Steep, .d (L58 x1.1.CvRow.Points)], .data (so4.2.flatMap cel3)] [] (by kernel_rfl) trivial ?_
        refine awp_cond (b := (decide (so4.1 > 60))) (by kernel_rfl) (fun hb13 => ?_) (fun hb13 => ?_)
        · rw [if_pos hb13] at h
          refine awp_sreg tt_ok (ks := [4, 5]) (hs := []) [(4, .d dnil), (5, vi 9)] [.cells [vi p_r.Steep, .d (L58 p_r.Points)], .cells [vi x1.1.CvRow.Steep, .d (L58 x1.1.CvRow.Points)], .data (so4.2.flatMap cel3)] [] (by kernel_rfl) trivial ?_
          obtain rfl := Option.some.inj h
          refine awp_wk 3 [4, 5] (by kernel_rfl) [(4, .d dnil), (5, vi 9)] [.cells [vi p_r.Steep, .d (L58 p_r.Points)], .cells [vi x1.1.CvRow.Steep, .d (L58 x1.1.CvRow.Points)], .data (so4.2.flatMap cel3)] (by kernel_rfl) (by kernel_rfl) ?_
          refine awp_laxT 4 _ (L84 ([] : List S_api_CvPass)) _ (by kernel_rfl) (.nil (e := 2)) rfl ?_
          refine awp_wk 3 [4, 5] (by kernel_rfl) [(4, .d (L84 ([] : List S_api_CvPass))), (5, vi 9)] [.cells [vi p_r.Steep, .d (L58 p_r.Points)], .cells [vi x1.1.CvRow.Steep, .d (L58 x1.1.CvRow.Points)], .data (so4.2.flatMap cel3)] (by kernel_rfl) (by kernel_rfl) ?_
          exact awp_ret (main_ret (by kernel_rfl))
        · rw [if_neg (ntrue hb13)] at h
          refine awp_skip ?_
          show awp _ _ _ _ _ _ _ _
          refine awp_seq ?_
          obtain ⟨x14, hx14, h⟩ := Option.bind_eq_some_iff.1 h
          refine awp_sreg tt_ok (ks := [4, 7, 67, 68]) (hs := [.no, .call [(L3 so4.2)] (vi x14)]) [(4, .d dnil), (7, .sl 1 2 0 so4.2.length), (67, vi x14), (68, vi 0)] [.cells [vi p_r.Steep, .d (L58 p_r.Points)], .cells [vi x1.1.CvRow.Steep, .d (L58 x1.1.CvRow.Points)], .data (so4.2.flatMap cel3)] [argsOk [.cells [vi p_r.Steep, .d (L58 p_r.Points)], .cells [vi x1.1.CvRow.Steep, .d (L58 x1.1.CvRow.Points)], .data (so4.2.flatMap cel3)] [.sl 1 2 0 so4.2.length] [(L3 so4.2)], PCall Try.prog 62 [(L3 so4.2)] (vi x14)] (by kernel_rfl) (And.intro ((And.intro (lentOk cel3_len rfl) trivial)) (ct62 hx14)) ?_
          refine awp_nil 4 2 (by kernel_rfl) ?_
          refine awp_eq (T' := [(4, .sl 2 3 0 ([] : List S_api_CvPass).length), (7, .sl 1 2 0 so4.2.length), (67, vi x14), (68, vi 0)]) (H' := [.cells [vi p_r.Steep, .d (L58 p_r.Points)], .cells [vi x1.1.CvRow.Steep, .d (L58 x1.1.CvRow.Points)], .data (so4.2.flatMap cel3), .data (([] : List S_api_CvPass).flatMap cel84)]) (by kernel_rfl) (by kernel_rfl) ?_
          refine awp_wk 4 [4, 7, 67, 68] (by kernel_rfl) [(4, .sl 2 3 0 ([] : List S_api_CvPass).length), (7, .sl 1 2 0 so4.2.length), (67, vi x14), (68, vi 0)] [.cells [vi p_r.Steep, .d (L58 p_r.Points)], .cells [vi x1.1.CvRow.Steep, .d (L58 x1.1.CvRow.Points)], .data (so4.2.flatMap cel3), .data (([] : List S_api_CvPass).flatMap cel84)] (by kernel_rfl) (by kernel_rfl) ?_
          obtain ⟨o16, ho16, h⟩ := Option.bind_eq_some_iff.1 h
          refine awp_cut1 (OutQ (fun (ro16 : (List S_api_CvPass) × Int) => [(4, .d (L84 ro16.1)), (5, vi ro16.2)]) (fun (ro16 : (List S_api_CvPass) × Int) => []) (fun (so16 : (List S_api_CvPass)) => [(4, .sl 2 3 0 so16.length)]) (fun (so16 : (List S_api_CvPass)) => [.cells [vi p_r.Steep, .d (L58 p_r.Points)], .cells [vi x1.1.CvRow.Steep, .d (L58 x1.1.CvRow.Points)], .data (so4.2.flatMap cel3), .data (so16.flatMap cel84)]) o16) ?_ ?_
          · clear h
            have h := ho16
            clear ho16
            refine awp_selQ ?_
            refine awp_wk 4 [4, 7, 67, 68] (by kernel_rfl) [(4, .sl 2 3 0 ([] : List S_api_CvPass).length), (7, .sl 1 2 0 so4.2.length), (67, vi x14), (68, vi 0)] [.cells [vi p_r.Steep, .d (L58 p_r.Points)], .cells [vi x1.1.CvRow.Steep, .d (L58 x1.1.CvRow.Points)], .data (so4.2.flatMap cel3), .data (([] : List S_api_CvPass).flatMap cel84)] (by kernel_rfl) (by kernel_rfl) ?_
            refine awp_block ?_
            refine awp_loop (n := fuel) ?_
            refine awpN_ind (fun n (c17 : Int × (List S_api_CvPass)) => F30L2 fuel so4 x14 n c17) o16 (fun (c17 : Int × (List S_api_CvPass)) => [(4, .sl 2 3 0 c17.2.length), (7, .sl 1 2 0 so4.2.length), (67, vi x14), (68, vi c17.1)]) (fun (c17 : Int × (List S_api_CvPass)) => [.cells [vi p_r.Steep, .d (L58 p_r.Points)], .cells [vi x1.1.CvRow.Steep, .d (L58 x1.1.CvRow.Points)], .data (so4.2.flatMap cel3), .data (c17.2.flatMap cel84)]) (fun _ => rfl) ?_ fuel (0, ([] : List S_api_CvPass)) h
            clear h
            intro n18 c17 h hrn18
            change F30L2 fuel so4 x14 (n18 + 1) c17 = some o16 at h
            rw [F30L2] at h
            refine awp_sreg tt_ok (ks := [4, 7, 67, 68, 69]) (hs := []) [(4, .sl 2 3 0 c17.2.length), (7, .sl 1 2 0 so4.2.length), (67, vi x14), (68, vi c17.1), (69, vb (decide (c17.1 < x14)))] [.cells [vi p_r.Steep, .d (L58 p_r.Points)], .cells [vi x1.1.CvRow.Steep, .d (L58 x1.1.CvRow.Points)], .data (so4.2.flatMap cel3), .data (c17.2.flatMap cel84)] [] (by kernel_rfl) trivial ?_
            refine awp_seq ?_
            refine awp_cond (b := (decide (c17.1 < x14))) (by kernel_rfl) (fun hb19 => ?_) (fun hb19 => ?_)
            · rw [if_pos hb19] at h
              refine awp_skip ?_
              show awp _ _ _ _ _ _ _ _
              refine awp_seq ?_
              refine awp_block ?_
              refine awp_sreg tt_ok (ks := [4, 7, 12, 67, 68]) (hs := []) [(4, .sl 2 3 0 c17.2.length), (7, .sl 1 2 0 so4.2.length), (12, vi c17.1), (67, vi x14), (68, vi c17.1)] [.cells [vi p_r.Steep, .d (L58 p_r.Points)], .cells [vi x1.1.CvRow.Steep, .d (L58 x1.1.CvRow.Points)], .data (so4.2.flatMap cel3), .data (c17.2.flatMap cel84)] [] (by kernel_rfl) trivial ?_
              refine awp_sreg tt_ok (ks := [4, 7, 12, 13, 67, 68]) (hs := []) [(4, .sl 2 3 0 c17.2.length), (7, .sl 1 2 0 so4.2.length), (12, vi c17.1), (13, vi (-1)), (67, vi x14), (68, vi c17.1)] [.cells [vi p_r.Steep, .d (L58 p_r.Points)], .cells [vi x1.1.CvRow.Steep, .d (L58 x1.1.CvRow.Points)], .data (so4.2.flatMap cel3), .data (c17.2.flatMap cel84)] [] (by kernel_rfl) trivial ?_
              refine awp_sreg tt_ok (ks := [4, 7, 12, 13, 67, 68, 71, 72, 73]) (hs := []) [(4, .sl 2 3 0 c17.2.length), (7, .sl 1 2 0 so4.2.length), (12, vi c17.1), (13, vi (-1)), (67, vi x14), (68, vi c17.1), (71, .sl 1 2 0 so4.2.length), (72, vi (so4.2.length : Int)), (73, vi 0)] [.cells [vi p_r.Steep, .d (L58 p_r.Points)], .cells [vi x1.1.CvRow.Steep, .d (L58 x1.1.CvRow.Points)], .data (so4.2.flatMap cel3), .data (c17.2.flatMap cel84)] [] (by kernel_rfl) trivial ?_
              obtain ⟨o20, ho20, h⟩ := Option.bind_eq_some_iff.1 h
              refine awp_cut1 (OutQ (fun (ro20 : (List S_api_CvPass) × Int) => [(4, .d (L84 ro20.1)), (5, vi ro20.2)]) (fun (ro20 : (List S_api_CvPass) × Int) => []) (fun (so20 : (List S_api_CvPass)) => [(4, .sl 2 3 0 so20.length), (7, .sl 1 2 0 so4.2.length), (67, vi x14), (68, vi c17.1)]) (fun (so20 : (List S_api_CvPass)) => [.cells [vi p_r.Steep, .d (L58 p_r.Points)], .cells [vi x1.1.CvRow.Steep, .d (L58 x1.1.CvRow.Points)], .data (so4.2.flatMap cel3), .data (so20.flatMap cel84)]) o20) ?_ ?_
              · clear h
                have h := ho20
                clear ho20
                refine awp_selQ ?_
                refine awp_wk 4 [4, 7, 12, 13, 67, 68, 71, 72, 73] (by kernel_rfl) [(4, .sl 2 3 0 c17.2.length), (7, .sl 1 2 0 so4.2.length), (12, vi c17.1), (13, vi (-1)), (67, vi x14), (68, vi c17.1), (71, .sl 1 2 0 so4.2.length), (72, vi (so4.2.length : Int)), (73, vi 0)] [.cells [vi p_r.Steep, .d (L58 p_r.Points)], .cells [vi x1.1.CvRow.Steep, .d (L58 x1.1.CvRow.Points)], .data (so4.2.flatMap cel3), .data (c17.2.flatMap cel84)] (by kernel_rfl) (by kernel_rfl) ?_
                refine awp_block ?_
                refine awp_loop (n := fuel) ?_
                refine awpN_ind (fun n (c21 : Int × Int × (List S_api_CvPass)) => F30L3 so4 c17 n c21) o20 (fun (c21 : Int × Int × (List S_api_CvPass)) => [(4, .sl 2 3 0 c21.2.2.length), (7, .sl 1 2 0 so4.2.length), (12, vi c17.1), (13, vi c21.1), (67, vi x14), (68, vi c17.1), (71, .sl 1 2 0 so4.2.length), (72, vi (so4.2.length : Int)), (73, vi c21.2.1)]) (fun (c21 : Int × Int × (List S_api_CvPass)) => [.cells [vi p_r.Steep, .d (L58 p_r.Points)], .cells [vi x1.1.CvRow.Steep, .d (L58 x1.1.CvRow.Points)], .data (so4.2.flatMap cel3), .data (c21.2.2.flatMap cel84)]) (fun _ => rfl) ?_ fuel ((-1), 0, c17.2) h
                clear h
                intro n22 c21 h hrn22
                change F30L3 so4 c17 (n22 + 1) c21 = some o20 at h
                rw [F30L3] at h
                refine awp_sreg tt_ok (ks := [4, 7, 12, 13, 67, 68, 71, 72, 73, 74]) (hs := []) [(4, .sl 2 3 0 c21.2.2.length), (7, .sl 1 2 0 so4.2.length), (12, vi c17.1), (13, vi c21.1), (67, vi x14), (68, vi c17.1), (71, .sl 1 2 0 so4.2.length), (72, vi (so4.2.length : Int)), (73, vi c21.2.1), (74, vb (decide (c21.2.1 < (so4.2.length : Int))))] [.cells [vi p_r.Steep, .d (L58 p_r.Points)], .cells [vi x1.1.CvRow.Steep, .d (L58 x1.1.CvRow.Points)], .data (so4.2.flatMap cel3), .data (c21.2.2.flatMap cel84)] [] (by kernel_rfl) trivial ?_
                refine awp_seq ?_
                refine awp_cond (b := (decide (c21.2.1 < (so4.2.length : Int)))) (by kernel_rfl) (fun hb23 => ?_) (fun hb23 => ?_)
                · rw [if_pos hb23] at h
                  refine awp_skip ?_
                  show awp _ _ _ _ _ _ _ _
                  refine awp_seq ?_
                  refine awp_block ?_
                  obtain ⟨x24, hx24, h⟩ := Option.bind_eq_some_iff.1 h
                  refine awp_sreg tt_ok (ks := [4, 7, 12, 13, 14, 15, 67, 68, 71, 72, 73]) (hs := [.no, .no, .vals (([(di x24)] : List D).map .d)]) [(4, .sl 2 3 0 c21.2.2.length), (7, .sl 1 2 0 so4.2.length), (12, vi c17.1), (13, vi c21.1), (14, vi c21.2.1), (15, vi x24), (67, vi x14), (68, vi c17.1), (71, .sl 1 2 0 so4.2.length), (72, vi (so4.2.length : Int)), (73, vi c21.2.1)] [.cells [vi p_r.Steep, .d (L58 p_r.Points)], .cells [vi x1.1.CvRow.Steep, .d (L58 x1.1.CvRow.Points)], .data (so4.2.flatMap cel3), .data (c21.2.2.flatMap cel84)] [(0 ≤ c21.2.1 ∧ c21.2.1 < (so4.2.length : Int)), LoadOk ((so4.2.flatMap cel3).map .d) (0 + c21.2.1.toNat * 1) 1 (([(di x24)] : List D).map .d)] (by kernel_rfl) (And.intro (idx_bounds hx24) (loadOk (j := 0) (es := ([(di x24)] : List D)) cel3_len hx24 rfl rfl rfl (Nat.le_of_ble_eq_true rfl))) ?_
                  refine awp_block ?_
                  refine awp_sreg tt_ok (ks := [4, 7, 12, 13, 14, 15, 67, 68, 71, 72, 73, 78]) (hs := []) [(4, .sl 2 3 0 c21.2.2.length), (7, .sl 1 2 0 so4.2.length), (12, vi c17.1), (13, vi c21.1), (14, vi c21.2.1), (15, vi x24), (67, vi x14), (68, vi c17.1), (71, .sl 1 2 0 so4.2.length), (72, vi (so4.2.length : Int)), (73, vi c21.2.1), (78, vb (cond (decide (x24 > c17.1)) (decide (c21.1 < 0)) false))] [.cells [vi p_r.Steep, .d (L58 p_r.Points)], .cells [vi x1.1.CvRow.Steep, .d (L58 x1.1.CvRow.Points)], .data (so4.2.flatMap cel3), .data (c21.2.2.flatMap cel84)] [((decide (x24 > c17.1)) = true → (decide (x24 > c17.1)) = true), ((decide (x24 > c17.1)) = true → (decide (x24 > c17.1)) = true)] (by kernel_rfl) (And.intro (id) (id)) ?_
                  refine awp_cond (b := (cond (decide (x24 > c17.1)) (decide (c21.1 < 0)) false)) (by kernel_rfl) (fun hb25 => ?_) (fun hb25 => ?_)
                  · rw [if_pos hb25] at h
                    refine awp_region (T' := [(4, .sl 2 3 0 c21.2.2.length), (7, .sl 1 2 0 so4.2.length), (12, vi c17.1), (13, vi c21.2.1), (67, vi x14), (68, vi c17.1), (71, .sl 1 2 0 so4.2.length), (72, vi (so4.2.length : Int)), (73, vi c21.2.1)]) (H' := [.cells [vi p_r.Steep, .d (L58 p_r.Points)], .cells [vi x1.1.CvRow.Steep, .d (L58 x1.1.CvRow.Points)], .data (so4.2.flatMap cel3), .data (c21.2.2.flatMap cel84)]) (ps := []) tt_ok (ks := [4, 7, 12, 13, 67, 68, 71, 72, 73]) (hs := []) (by kernel_rfl) trivial ?_
                    show awp _ _ _ _ _ _ _ _
                    refine awp_region (T' := [(4, .sl 2 3 0 c21.2.2.length), (7, .sl 1 2 0 so4.2.length), (12, vi c17.1), (13, vi c21.2.1), (67, vi x14), (68, vi c17.1), (71, .sl 1 2 0 so4.2.length), (72, vi (so4.2.length : Int)), (73, vi (w64 (c21.2.1 + 1)))]) (H' := [.cells [vi p_r.Steep, .d (L58 p_r.Points)], .cells [vi x1.1.CvRow.Steep, .d (L58 x1.1.CvRow.Points)], .data (so4.2.flatMap cel3), .data (c21.2.2.flatMap cel84)]) (ps := []) tt_ok (ks := [4, 7, 12, 13, 67, 68, 71, 72, 73]) (hs := []) (by kernel_rfl) trivial ?_
                    exact awpN_wk 4 [4, 7, 12, 13, 67, 68, 71, 72, 73] (by kernel_rfl) _ _ (by kernel_rfl) (by kernel_rfl) (hrn22 (c21.2.1, (w64 (c21.2.1 + 1)), c21.2.2) h)
                  · rw [if_neg (ntrue hb25)] at h
                    refine awp_sreg tt_ok (ks := [4, 7, 12, 13, 14, 67, 68, 71, 72, 73, 87]) (hs := []) [(4, .sl 2 3 0 c21.2.2.length), (7, .sl 1 2 0 so4.2.length), (12, vi c17.1), (13, vi c21.1), (14, vi c21.2.1), (67, vi x14), (68, vi c17.1), (71, .sl 1 2 0 so4.2.length), (72, vi (so4.2.length : Int)), (73, vi c21.2.1), (87, vb (cond (decide (x24 ≤ c17.1)) (decide (c21.1 ≥ 0)) false))] [.cells [vi p_r.Steep, .d (L58 p_r.Points)], .cells [vi x1.1.CvRow.Steep, .d (L58 x1.1.CvRow.Points)], .data (so4.2.flatMap cel3), .data (c21.2.2.flatMap cel84)] [((decide (x24 ≤ c17.1)) = true → (decide (x24 ≤ c17.1)) = true), ((decide (x24 ≤ c17.1)) = true → (decide (x24 ≤ c17.1)) = true)] (by kernel_rfl) (And.intro (id) (id)) ?_
                    refine awp_cond (b := (cond (decide (x24 ≤ c17.1)) (decide (c21.1 ≥ 0)) false)) (by kernel_rfl) (fun hb26 => ?_) (fun hb26 => ?_)
                    · rw [if_pos hb26] at h
                      obtain ⟨x27, hx27, h⟩ := Option.bind_eq_some_iff.1 h
                      refine awp_sreg tt_ok (ks := [4, 7, 12, 67, 68, 71, 72, 73]) (hs := [.no, .no, .no, .no, .no, .no, .list (c21.2.2 ++ ([(⟨c21.1, (w64 (c21.2.1 - 1))⟩ : S_api_CvPass)] : List S_api_CvPass)).length ((c21.2.2 ++ ([(⟨c21.1, (w64 (c21.2.1 - 1))⟩ : S_api_CvPass)] : List S_api_CvPass)).flatMap cel84)]) [(4, .sl 2 3 0 (c21.2.2 ++ ([(⟨c21.1, (w64 (c21.2.1 - 1))⟩ : S_api_CvPass)] : List S_api_CvPass)).length), (7, .sl 1 2 0 so4.2.length), (12, vi c17.1), (67, vi x14), (68, vi c17.1), (71, .sl 1 2 0 so4.2.length), (72, vi (so4.2.length : Int)), (73, vi c21.2.1)] [.cells [vi p_r.Steep, .d (L58 p_r.Points)], .cells [vi x1.1.CvRow.Steep, .d (L58 x1.1.CvRow.Points)], .data (so4.2.flatMap cel3), .data ((c21.2.2 ++ ([(⟨c21.1, (w64 (c21.2.1 - 1))⟩ : S_api_CvPass)] : List S_api_CvPass)).flatMap cel84)] [AppendOk ((c21.2.2.flatMap cel84).map .d) c21.2.2.length ([(⟨c21.1, (w64 (c21.2.1 - 1))⟩ : S_api_CvPass)] : List S_api_CvPass).length (c21.2.2 ++ ([(⟨c21.1, (w64 (c21.2.1 - 1))⟩ : S_api_CvPass)] : List S_api_CvPass)).length 2 16 (([(⟨c21.1, (w64 (c21.2.1 - 1))⟩ : S_api_CvPass)] : List S_api_CvPass).flatMap cel84) ((c21.2.2 ++ ([(⟨c21.1, (w64 (c21.2.1 - 1))⟩ : S_api_CvPass)] : List S_api_CvPass)).flatMap cel84)] (by kernel_rfl) (appendOk cel84_len (need_of hx27)) ?_
                      refine awp_region (T' := [(4, .sl 2 3 0 (c21.2.2 ++ ([(⟨c21.1, (w64 (c21.2.1 - 1))⟩ : S_api_CvPass)] : List S_api_CvPass)).length), (7, .sl 1 2 0 so4.2.length), (12, vi c17.1), (13, vi (-1)), (67, vi x14), (68, vi c17.1), (71, .sl 1 2 0 so4.2.length), (72, vi (so4.2.length : Int)), (73, vi c21.2.1)]) (H' := [.cells [vi p_r.Steep, .d (L58 p_r.Points)], .cells [vi x1.1.CvRow.Steep, .d (L58 x1.1.CvRow.Points)], .data (so4.2.flatMap cel3), .data ((c21.2.2 ++ ([(⟨c21.1, (w64 (c21.2.1 - 1))⟩ : S_api_CvPass)] : List S_api_CvPass)).flatMap cel84)]) (ps := []) tt_ok (ks := [4, 7, 12, 13, 67, 68, 71, 72, 73]) (hs := []) (by kernel_rfl) trivial ?_
                      show awp _ _ _ _ _ _ _ _
                      refine awp_region (T' := [(4, .sl 2 3 0 (c21.2.2 ++ ([(⟨c21.1, (w64 (c21.2.1 - 1))⟩ : S_api_CvPass)] : List S_api_CvPass)).length), (7, .sl 1 2 0 so4.2.length), (12, vi c17.1), (13, vi (-1)), (67, vi x14), (68, vi c17.1), (71, .sl 1 2 0 so4.2.length), (72, vi (so4.2.length : Int)), (73, vi (w64 (c21.2.1 + 1)))]) (H' := [.cells [vi p_r.Steep, .d (L58 p_r.Points)], .cells [vi x1.1.CvRow.Steep, .d (L58 x1.1.CvRow.Points)], .data (so4.2.flatMap cel3), .data ((c21.2.2 ++ ([(⟨c21.1, (w64 (c21.2.1 - 1))⟩ : S_api_CvPass)] : List S_api_CvPass)).flatMap cel84)]) (ps := []) tt_ok (ks := [4, 7, 12, 13, 67, 68, 71, 72, 73]) (hs := []) (by kernel_rfl) trivial ?_
                      exact awpN_wk 4 [4, 7, 12, 13, 67, 68, 71, 72, 73] (by kernel_rfl) _ _ (by kernel_rfl) (by kernel_rfl) (hrn22 ((-1), (w64 (c21.2.1 + 1)), (c21.2.2 ++ ([(⟨c21.1, (w64 (c21.2.1 - 1))⟩ : S_api_CvPass)] : List S_api_CvPass))) h)
                    · rw [if_neg (ntrue hb26)] at h
                      refine awp_skip ?_
                      show awp _ _ _ _ _ _ _ _
                      refine awp_region (T' := [(4, .sl 2 3 0 c21.2.2.length), (7, .sl 1 2 0 so4.2.length), (12, vi c17.1), (13, vi c21.1), (67, vi x14), (68, vi c17.1), (71, .sl 1 2 0 so4.2.length), (72, vi (so4.2.length : Int)), (73, vi (w64 (c21.2.1 + 1)))]) (H' := [.cells [vi p_r.Steep, .d (L58 p_r.Points)], .cells [vi x1.1.CvRow.Steep, .d (L58 x1.1.CvRow.Points)], .data (so4.2.flatMap cel3), .data (c21.2.2.flatMap cel84)]) (ps := []) tt_ok (ks := [4, 7, 12, 13, 67, 68, 71, 72, 73]) (hs := []) (by kernel_rfl) trivial ?_
                      exact awpN_wk 4 [4, 7, 12, 13, 67, 68, 71, 72, 73] (by kernel_rfl) _ _ (by kernel_rfl) (by kernel_rfl) (hrn22 (c21.1, (w64 (c21.2.1 + 1)), c21.2.2) h)
                · rw [if_neg (ntrue hb23)] at h
                  refine awp_exit ?_
                  obtain rfl := Option.some.inj h
                  exact Sel.mk [0, 1, 2, 3] [4, 7, 67, 68] (by kernel_rfl) (by kernel_rfl) (by kernel_rfl) OutQ.norm
              · intro e T H hq
                cases o20 with
                | inl ro20 =>
                  obtain ⟨rfl, rfl, rfl⟩ := hq
                  rw [outK_inl] at h
                  obtain rfl := Option.some.inj h
                  exact Sel.mk [] [4, 5] (by kernel_rfl) (by kernel_rfl) (by kernel_rfl) OutQ.ret
                | inr so20 =>
                  obtain ⟨rfl, rfl, rfl⟩ := hq
                  rw [outK_inr] at h
                  show awp _ _ _ _ _ _ _ _
                  refine awp_region (T' := [(4, .sl 2 3 0 so20.length), (7, .sl 1 2 0 so4.2.length), (67, vi x14), (68, vi (w64 (c17.1 + 1)))]) (H' := [.cells [vi p_r.Steep, .d (L58 p_r.Points)], .cells [vi x1.1.CvRow.Steep, .d (L58 x1.1.CvRow.Points)], .data (so4.2.flatMap cel3), .data (so20.flatMap cel84)]) (ps := []) tt_ok (ks := [4, 7, 67, 68]) (hs := []) (by kernel_rfl) trivial ?_
                  exact awpN_wk 4 [4, 7, 67, 68] (by kernel_rfl) _ _ (by kernel_rfl) (by kernel_rfl) (hrn18 ((w64 (c17.1 + 1)), so20) h)
            · rw [if_neg (ntrue hb19)] at h
              refine awp_exit ?_
              obtain rfl := Option.some.inj h
              exact Sel.mk [0, 1, 2, 3] [4] (by kernel_rfl) (by kernel_rfl) (by kernel_rfl) OutQ.norm
          · intro e T H hq
            cases o16 with
            | inl ro16 =>
              obtain ⟨rfl, rfl, rfl⟩ := hq
              rw [outK_inl] at h
              obtain rfl := Option.some.inj h
              exact main_ret (by kernel_rfl)
            | inr so16 =>
              obtain ⟨rfl, rfl, rfl⟩ := hq
              rw [outK_inr] at h
              show awp _ _ _ _ _ _ _ _
              refine awp_sreg tt_ok (ks := [4, 5]) (hs := []) [(4, .sl 2 3 0 so16.length), (5, vi 0)] [.cells [vi p_r.Steep, .d (L58 p_r.Points)], .cells [vi x1.1.CvRow.Steep, .d (L58 x1.1.CvRow.Points)], .data (so4.2.flatMap cel3), .data (so16.flatMap cel84)] [] (by kernel_rfl) trivial ?_
              obtain rfl := Option.some.inj h
              refine awp_wk 4 [4, 5] (by kernel_rfl) [(4, .sl 2 3 0 so16.length), (5, vi 0)] [.cells [vi p_r.Steep, .d (L58 p_r.Points)], .cells [vi x1.1.CvRow.Steep, .d (L58 x1.1.CvRow.Points)], .data (so4.2.flatMap cel3), .data (so16.flatMap cel84)] (by kernel_rfl) (by kernel_rfl) ?_
              refine awp_freeze 4 3 (so16.flatMap cel84) (.sl 2 3 0 so16.length) (.d (L84 so16)) _ _ (ps := [(so16.flatMap cel84).length = so16.length * 2]) (by kernel_rfl) (by kernel_rfl) (by kernel_rfl) (flatMap_len cel84 2 cel84_len so16) rfl rfl ?_
              refine awp_wk 4 [4, 5] (by kernel_rfl) [(4, .d (L84 so16)), (5, vi 0)] [.cells [vi p_r.Steep, .d (L58 p_r.Points)], .cells [vi x1.1.CvRow.Steep, .d (L58 x1.1.CvRow.Points)], .data (so4.2.flatMap cel3), .data (([] : List S_api_CvPass).flatMap cel84)] (by kernel_rfl) (by kernel_rfl) ?_
              exact awp_ret (main_ret (by kernel_rfl))

set_option maxRecDepth 100000 in
theorem ct58  {from_ : Int} {to_ : Int} {res : S_api_CvPass} (h : F58 from_ to_ = some res) : PCall Try.prog 58 [(di from_), (di to_)] (.d (.agg [(di res.From), (di res.To)])) := by
  refine PCall.of_awp tt_ok (N := 8) Try.func58 rfl (by kernel_rfl) rfl (Nat.le_of_ble_eq_true rfl) rfl ?_
  unfold F58 at h
  refine awp_sreg tt_ok (ks := [0, 1, 4]) (hs := []) [(0, vi from_), (1, vi to_), (4, .ref 0 0)] [.cells [vi 0, vi 0]] [] (by kernel_rfl) trivial ?_
  refine awp_sreg tt_ok (ks := [4]) (hs := []) [(4, .ref 0 0)] [.cells [vi from_, vi to_]] [] (by kernel_rfl) trivial ?_
  obtain rfl := Option.some.inj h
  refine awp_wk 1 [4] (by kernel_rfl) [(4, .ref 0 0)] [.cells [vi from_, vi to_]] (by kernel_rfl) (by kernel_rfl) ?_
  exact awp_ret (main_ret (by kernel_rfl))

set_option maxRecDepth 100000 in
theorem ct33 {fuel : Nat}  {p_r : S_api_CvRow} {passes : (List S_api_CvPass)} {res : (List Int) × Int} (h : F33 fuel p_r passes = some res) : PCall Try.prog 33 [(.agg [(di p_r.Steep), (L58 p_r.Points)]), (L84 passes)] (.tup [.d (L3 res.1), vi res.2]) := by
  refine PCall.of_awp tt_ok (N := 92) Try.func33 rfl (by kernel_rfl) rfl (Nat.le_of_ble_eq_true rfl) rfl ?_
  unfold F33 at h
  refine awp_sreg tt_ok (ks := [1, 2]) (hs := []) [(1, .d (L84 passes)), (2, .ref 0 0)] [.cells [vi p_r.Steep, .d (L58 p_r.Points)]] [] (by kernel_rfl) trivial ?_
  refine awp_seq ?_
  obtain ⟨x1, hx1, h⟩ := Option.bind_eq_some_iff.1 h
  refine awp_sreg tt_ok (ks := [1, 2, 8]) (hs := [.no, .call [(.agg [(di p_r.Steep), (L58 p_r.Points)])] (.tup [vi x1.1, vi x1.2.1, vi x1.2.2])]) [(1, .d (L84 passes)), (2, .ref 0 0), (8, vi x1.2.2)] [.cells [vi p_r.Steep, .d (L58 p_r.Points)]] [PCall Try.prog 16 [(.agg [(di p_r.Steep), (L58 p_r.Points)])] (.tup [vi x1.1, vi x1.2.1, vi x1.2.2])] (by kernel_rfl) (ct16 hx1) ?_
  refine awp_sreg tt_ok (ks := [1, 2, 8, 20]) (hs := []) [(1, .d (L84 passes)), (2, .ref 0 0), (8, vi x1.2.2), (20, vb (x1.2.2 != 0))] [.cells [vi p_r.Steep, .d (L58 p_r.Points)]] [] (by kernel_rfl) trivial ?_
  refine awp_cond (b := (x1.2.2 != 0)) (by kernel_rfl) (fun hb2 => ?_) (fun hb2 => ?_)
  · rw [if_pos hb2] at h
    refine awp_sreg tt_ok (ks := [4, 5]) (hs := []) [(4, .d dnil), (5, vi x1.2.2)] [.cells [vi p_r.Steep, .d (L58 p_r.Points)]] [] (by kernel_rfl) trivial ?_
    obtain rfl := Option.some.inj h
    refine awp_wk 1 [4, 5] (by kernel_rfl) [(4, .d dnil), (5, vi x1.2.2)] [.cells [vi p_r.Steep, .d (L58 p_r.Points)]] (by kernel_rfl) (by kernel_rfl) ?_
    refine awp_laxT 4 _ (L3 ([] : List Int)) _ (by kernel_rfl) (.nil (e := 1)) rfl ?_
    refine awp_wk 1 [4, 5] (by kernel_rfl) [(4, .d (L3 ([] : List Int))), (5, vi x1.2.2)] [.cells [vi p_r.Steep, .d (L58 p_r.Points)]] (by kernel_rfl) (by kernel_rfl) ?_
    exact awp_ret (main_ret (by kernel_rfl))
  · rw [if_neg (ntrue hb2)] at h
    refine awp_skip ?_
    show awp _ _ _ _ _ _ _ _
    refine awp_seq ?_
    refine awp_sreg tt_ok (ks := [1, 2, 24]) (hs := []) [(1, .d (L84 passes)), (2, .ref 0 0), (24, vb (decide ((passes.length : Int) > 60)))] [.cells [vi p_r.Steep, .d (L58 p_r.Points)]] [] (by kernel_rfl) trivial ?_
    refine awp_cond (b := (decide ((passes.length : Int) > 60))) (by kernel_rfl) (fun hb3 => ?_) (fun hb3 => ?_)
    · rw [if_pos hb3] at h
      refine awp_sreg tt_ok (ks := [4, 5]) (hs := []) [(4, .d dnil), (5, vi 3)] [.cells [vi p_r.Steep, .d (L58 p_r.Points)]] [] (by kernel_rfl) trivial ?_
      obtain rfl := Option.some.inj h
      refine awp_wk 1 [4, 5] (by kernel_rfl) [(4, .d dnil), (5, vi 3)] [.cells [vi p_r.Steep, .d (L58 p_r.Points)]] (by kernel_rfl) (by kernel_rfl) ?_
      refine awp_laxT 4 _ (L3 ([] : List Int)) _ (by kernel_rfl) (.nil (e := 1)) rfl ?_
      refine awp_wk 1 [4, 5] (by kernel_rfl) [(4, .d (L3 ([] : List Int))), (5, vi 3)] [.cells [vi p_r.Steep, .d (L58 p_r.Points)]] (by kernel_rfl) (by kernel_rfl) ?_
      exact awp_ret (main_ret (by kernel_rfl))
    · rw [if_neg (ntrue hb3)] at h
      refine awp_skip ?_
      show awp _ _ _ _ _ _ _ _
      obtain ⟨x4, hx4, h⟩ := Option.bind_eq_some_iff.1 h
      refine awp_sreg tt_ok (ks := [1, 2, 9]) (hs := [.no, .no, .no, .no, .list (List.replicate (w64 ((p_r.Points.length : Int) + 1)).toNat (0 : Int)).length ((List.replicate (w64 ((p_r.Points.length : Int) + 1)).toNat (0 : Int)).flatMap cel3)]) [(1, .d (L84 passes)), (2, .ref 0 0), (9, .sl 1 1 0 (List.replicate (w64 ((p_r.Points.length : Int) + 1)).toNat (0 : Int)).length)] [.cells [vi p_r.Steep, .d (L58 p_r.Points)], .data ((List.replicate (w64 ((p_r.Points.length : Int) + 1)).toNat (0 : Int)).flatMap cel3)] [MakeOk (w64 ((p_r.Points.length : Int) + 1)) (w64 ((p_r.Points.length : Int) + 1)) (List.replicate (w64 ((p_r.Points.length : Int) + 1)).toNat (0 : Int)).length 8 [.int .i64 0] ((List.replicate (w64 ((p_r.Points.length : Int) + 1)).toNat (0 : Int)).flatMap cel3)] (by kernel_rfl) (makeOk rfl (need_of hx4)) ?_
      refine awp_seq ?_
      refine awp_sreg tt_ok (ks := [2, 9, 30, 31, 32]) (hs := []) [(2, .ref 0 0), (9, .sl 1 1 0 (List.replicate (w64 ((p_r.Points.length : Int) + 1)).toNat (0 : Int)).length), (30, .d (L84 passes)), (31, vi (passes.length : Int)), (32, vi 0)] [.cells [vi p_r.Steep, .d (L58 p_r.Points)], .data ((List.replicate (w64 ((p_r.Points.length : Int) + 1)).toNat (0 : Int)).flatMap cel3)] [] (by kernel_rfl) trivial ?_
      obtain ⟨o5, ho5, h⟩ := Option.bind_eq_some_iff.1 h
      refine awp_cut1 (OutQ (fun (ro5 : (List Int) × Int) => [(4, .d (L3 ro5.1)), (5, vi ro5.2)]) (fun (ro5 : (List Int) × Int) => []) (fun (so5 : (List Int)) => [(2, .ref 0 0), (9, .sl 1 1 0 so5.length)]) (fun (so5 : (List Int)) => [.cells [vi p_r.Steep, .d (L58 p_r.Points)], .data (so5.flatMap cel3)]) o5) ?_ ?_
      · clear h
        have h := ho5
        clear ho5
        refine awp_selQ ?_
        refine awp_wk 2 [2, 9, 30, 31, 32] (by kernel_rfl) [(2, .ref 0 0), (9, .sl 1 1 0 (List.replicate (w64 ((p_r.Points.length : Int) + 1)).toNat (0 : Int)).length), (30, .d (L84 passes)), (31, vi (passes.length : Int)), (32, vi 0)] [.cells [vi p_r.Steep, .d (L58 p_r.Points)], .data ((List.replicate (w64 ((p_r.Points.length : Int) + 1)).toNat (0 : Int)).flatMap cel3)] (by kernel_rfl) (by kernel_rfl) ?_
        refine awp_block ?_
        refine awp_loop (n := fuel) ?_
        refine awpN_ind (fun n (c6 : Int × (List Int)) => F33L1 fuel p_r passes n c6) o5 (fun (c6 : Int × (List Int)) => [(2, .ref 0 0), (9, .sl 1 1 0 c6.2.length), (30, .d (L84 passes)), (31, vi (passes.length : Int)), (32, vi c6.1)]) (fun (c6 : Int × (List Int)) => [.cells [vi p_r.Steep, .d (L58 p_r.Points)], .data (c6.2.flatMap cel3)]) (fun _ => rfl) ?_ fuel (0, (List.replicate (w64 ((p_r.Points.length : Int) + 1)).toNat (0 : Int))) h
        clear h
        intro n7 c6 h hrn7
        change F33L1 fuel p_r passes (n7 + 1) c6 = some o5 at h
        rw [F33L1] at h
        refine awp_sreg tt_ok (ks := [2, 9, 30, 31, 32, 33]) (hs := []) [(2, .ref 0 0), (9, .sl 1 1 0 c6.2.length), (30, .d (L84 passes)), (31, vi (passes.length : Int)), (32, vi c6.1), (33, vb (decide (c6.1 < (passes.length : Int))))] [.cells [vi p_r.Steep, .d (L58 p_r.Points)], .data (c6.2.flatMap cel3)] [] (by kernel_rfl) trivial ?_
        refine awp_seq ?_
        refine awp_cond (b := (decide (c6.1 < (passes.length : Int)))) (by kernel_rfl) (fun hb8 => ?_) (fun hb8 => ?_)
        · rw [if_pos hb8] at h
          refine awp_skip ?_
          show awp _ _ _ _ _ _ _ _
          refine awp_seq ?_
          refine awp_block ?_
          obtain ⟨x9, hx9, h⟩ := Option.bind_eq_some_iff.1 h
          refine awp_sreg tt_ok (ks := [2, 9, 11, 30, 31, 32]) (hs := [.cells (cel84 x9)]) [(2, .ref 0 0), (9, .sl 1 1 0 c6.2.length), (11, .ref 2 0), (30, .d (L84 passes)), (31, vi (passes.length : Int)), (32, vi c6.1)] [.cells [vi p_r.Steep, .d (L58 p_r.Points)], .data (c6.2.flatMap cel3), .cells [vi x9.From, vi x9.To]] [IX84 passes c6.1 x9] (by kernel_rfl) (idxOk cel84_len hx9) ?_
          refine awp_seq ?_
          refine awp_block ?_
          obtain ⟨x10, hx10, h⟩ := Option.bind_eq_some_iff.1 h
          refine awp_sreg tt_ok (ks := [2, 9, 11, 30, 31, 32, 36]) (hs := [.no, .no, .no, .no, .no, .no, .no, .no, .no, .call [(di 0), (di (w64 ((p_r.Points.length : Int) - 1))), (L3 ([x9.From, x9.To] : List Int))] (vb x10)]) [(2, .ref 0 0), (9, .sl 1 1 0 c6.2.length), (11, .ref 2 0), (30, .d (L84 passes)), (31, vi (passes.length : Int)), (32, vi c6.1), (36, vb x10)] [.cells [vi p_r.Steep, .d (L58 p_r.Points)], .data (c6.2.flatMap cel3), .cells [vi x9.From, vi x9.To]] [PCall Try.prog 49 [(di 0), (di (w64 ((p_r.Points.length : Int) - 1))), (L3 ([x9.From, x9.To] : List Int))] (vb x10)] (by kernel_rfl) (ct49 hx10) ?_
          refine awp_cond (b := x10) (by kernel_rfl) (fun hb11 => ?_) (fun hb11 => ?_)
          · rw [if_pos hb11] at h
            refine awp_sreg tt_ok (ks := [4, 5]) (hs := []) [(4, .d dnil), (5, vi 4)] [.cells [vi p_r.Steep, .d (L58 p_r.Points)], .data (c6.2.flatMap cel3), .cells [vi x9.From, vi x9.To]] [] (by kernel_rfl) trivial ?_
            obtain rfl := Option.some.inj h
            refine awp_wk 3 [4, 5] (by kernel_rfl) [(4, .d dnil), (5, vi 4)] [.cells [vi p_r.Steep, .d (L58 p_r.Points)], .data (c6.2.flatMap cel3), .cells [vi x9.From, vi x9.To]] (by kernel_rfl) (by kernel_rfl) ?_
            refine awp_laxT 4 _ (L3 ([] : List Int)) _ (by kernel_rfl) (.nil (e := 1)) rfl ?_
            refine awp_wk 3 [4, 5] (by kernel_rfl) [(4, .d (L3 ([] : List Int))), (5, vi 4)] [.cells [vi p_r.Steep, .d (L58 p_r.Points)], .data (c6.2.flatMap cel3), .cells [vi x9.From, vi x9.To]] (by kernel_rfl) (by kernel_rfl) ?_
            exact awp_ret (Sel.mk [] [4, 5] (by kernel_rfl) (by kernel_rfl) (by kernel_rfl) OutQ.ret)
          · rw [if_neg (ntrue hb11)] at h
            refine awp_sreg tt_ok (ks := [2, 9, 11, 30, 31, 32, 47]) (hs := []) [(2, .ref 0 0), (9, .sl 1 1 0 c6.2.length), (11, .ref 2 0), (30, .d (L84 passes)), (31, vi (passes.length : Int)), (32, vi c6.1), (47, vb (decide (x9.From > x9.To)))] [.cells [vi p_r.Steep, .d (L58 p_r.Points)], .data (c6.2.flatMap cel3), .cells [vi x9.From, vi x9.To]] [] (by kernel_rfl) trivial ?_
            refine awp_cond (b := (decide (x9.From > x9.To))) (by kernel_rfl) (fun hb12 => ?_) (fun hb12 => ?_)
            · rw [if_pos hb12] at h
              refine awp_sreg tt_ok (ks := [4, 5]) (hs := []) [(4, .d dnil), (5, vi 2)] [.cells [vi p_r.Steep, .d (L58 p_r.Points)], .data (c6.2.flatMap cel3), .cells [vi x9.From, vi x9.To]] [] (by kernel_rfl) trivial ?_
              obtain rfl := Option.some.inj h
              refine awp_wk 3 [4, 5] (by kernel_rfl) [(4, .d dnil), (5, vi 2)] [.cells [vi p_r.Steep, .d (L58 p_r.Points)], .data (c6.2.flatMap cel3), .cells [vi x9.From, vi x9.To]] (by kernel_rfl) (by kernel_rfl) ?_
              refine awp_laxT 4 _ (L3 ([] : List Int)) _ (by kernel_rfl) (.nil (e := 1)) rfl ?_
              refine awp_wk 3 [4, 5] (by kernel_rfl) [(4, .d (L3 ([] : List Int))), (5, vi 2)] [.cells [vi p_r.Steep, .d (L58 p_r.Points)], .data (c6.2.flatMap cel3), .cells [vi x9.From, vi x9.To]] (by kernel_rfl) (by kernel_rfl) ?_
              exact awp_ret (Sel.mk [] [4, 5] (by kernel_rfl) (by kernel_rfl) (by kernel_rfl) OutQ.ret)
            · rw [if_neg (ntrue hb12)] at h
              refine awp_skip ?_
              show awp _ _ _ _ _ _ _ _
              obtain ⟨x13, hx13, h⟩ := Option.bind_eq_some_iff.1 h
              obtain ⟨x14, hx14, h⟩ := Option.bind_eq_some_iff.1 h
              refine awp_sreg tt_ok (ks := [2, 9, 11, 30, 31, 32]) (hs := [.no, .no, .no, .no, .vals (([(di x13)] : List D).map .d), .no, .no, .cells ((c6.2.set x9.From.toNat (w64 (x13 + 1))).flatMap cel3)]) [(2, .ref 0 0), (9, .sl 1 1 0 c6.2.length), (11, .ref 2 0), (30, .d (L84 passes)), (31, vi (passes.length : Int)), (32, vi c6.1)] [.cells [vi p_r.Steep, .d (L58 p_r.Points)], .data ((c6.2.set x9.From.toNat (w64 (x13 + 1))).flatMap cel3), .cells [vi x9.From, vi x9.To]] [(0 ≤ x9.From ∧ x9.From < (c6.2.length : Int)), LoadOk ((c6.2.flatMap cel3).map .d) (0 + x9.From.toNat * 1) 1 (([(di x13)] : List D).map .d), (0 ≤ x9.From ∧ x9.From < (c6.2.length : Int)), StoreOk ((c6.2.flatMap cel3).map .d) (0 + x9.From.toNat * 1) (([(di (w64 (x13 + 1)))] : List D).map .d) (((c6.2.set x9.From.toNat (w64 (x13 + 1))).flatMap cel3).map .d)] (by kernel_rfl) (And.intro (idx_bounds hx13) (And.intro (loadOk (j := 0) (es := ([(di x13)] : List D)) cel3_len hx13 rfl rfl rfl (Nat.le_of_ble_eq_true rfl)) (And.intro (idx_bounds hx14) (storeOk (j := 0) (us := ([(di (w64 (x13 + 1)))] : List D)) (y := (w64 (x13 + 1))) cel3_len hx14 rfl rfl (Nat.le_of_ble_eq_true rfl))))) ?_
              obtain ⟨x15, hx15, h⟩ := Option.bind_eq_some_iff.1 h
              obtain ⟨x16, hx16, h⟩ := Option.bind_eq_some_iff.1 h
              refine awp_region (T' := [(2, .ref 0 0), (9, .sl 1 1 0 c6.2.length), (30, .d (L84 passes)), (31, vi (passes.length : Int)), (32, vi c6.1)]) (H' := [.cells [vi p_r.Steep, .d (L58 p_r.Points)], .data (((c6.2.set x9.From.toNat (w64 (x13 + 1))).set (w64 (x9.To + 1)).toNat (w64 (x15 - 1))).flatMap cel3), .cells [vi x9.From, vi x9.To]]) (ps := [(0 ≤ (w64 (x9.To + 1)) ∧ (w64 (x9.To + 1)) < (c6.2.length : Int)), LoadOk (((c6.2.set x9.From.toNat (w64 (x13 + 1))).flatMap cel3).map .d) (0 + (w64 (x9.To + 1)).toNat * 1) 1 (([(di x15)] : List D).map .d), (0 ≤ (w64 (x9.To + 1)) ∧ (w64 (x9.To + 1)) < (c6.2.length : Int)), StoreOk (((c6.2.set x9.From.toNat (w64 (x13 + 1))).flatMap cel3).map .d) (0 + (w64 (x9.To + 1)).toNat * 1) (([(di (w64 (x15 - 1)))] : List D).map .d) ((((c6.2.set x9.From.toNat (w64 (x13 + 1))).set (w64 (x9.To + 1)).toNat (w64 (x15 - 1))).flatMap cel3).map .d)]) tt_ok (ks := [2, 9, 30, 31, 32]) (hs := [.no, .no, .no, .no, .no, .vals (([(di x15)] : List D).map .d), .no, .no, .cells (((c6.2.set x9.From.toNat (w64 (x13 + 1))).set (w64 (x9.To + 1)).toNat (w64 (x15 - 1))).flatMap cel3)]) (by kernel_rfl) (And.intro ((by have h0 := idx_bounds hx15; simp only [List.length_set] at h0; exact h0)) (And.intro (loadOk (j := 0) (es := ([(di x15)] : List D)) cel3_len hx15 rfl rfl rfl (Nat.le_of_ble_eq_true rfl)) (And.intro ((by have h0 := idx_bounds hx16; simp only [List.length_set] at h0; exact h0)) (storeOk (j := 0) (us := ([(di (w64 (x15 - 1)))] : List D)) (y := (w64 (x15 - 1))) cel3_len hx16 rfl rfl (Nat.le_of_ble_eq_true rfl))))) ?_
              show awp _ _ _ _ _ _ _ _
              refine awp_region (T' := [(2, .ref 0 0), (9, .sl 1 1 0 c6.2.length), (30, .d (L84 passes)), (31, vi (passes.length : Int)), (32, vi (w64 (c6.1 + 1)))]) (H' := [.cells [vi p_r.Steep, .d (L58 p_r.Points)], .data (((c6.2.set x9.From.toNat (w64 (x13 + 1))).set (w64 (x9.To + 1)).toNat (w64 (x15 - 1))).flatMap cel3), .cells [vi x9.From, vi x9.To]]) (ps := []) tt_ok (ks := [2, 9, 30, 31, 32]) (hs := []) (by kernel_rfl) trivial ?_
              exact awpN_wk 2 [2, 9, 30, 31, 32] (by kernel_rfl) _ _ (by simp only [List.length_set]; kernel_rfl) (by kernel_rfl) (hrn7 ((w64 (c6.1 + 1)), ((c6.2.set x9.From.toNat (w64 (x13 + 1))).set (w64 (x9.To + 1)).toNat (w64 (x15 - 1)))) h)
        · rw [if_neg (ntrue hb8)] at h
          refine awp_exit ?_
          obtain rfl := Option.some.inj h
          exact Sel.mk [0, 1] [2, 9] (by kernel_rfl) (by kernel_rfl) (by kernel_rfl) OutQ.norm
      · intro e T H hq
        cases o5 with
        | inl ro5 =>
          obtain ⟨rfl, rfl, rfl⟩ := hq
          rw [outK_inl] at h
          obtain rfl := Option.some.inj h
          exact main_ret (by kernel_rfl)
        | inr so5 =>
          obtain ⟨rfl, rfl, rfl⟩ := hq
          rw [outK_inr] at h
          show awp _ _ _ _ _ _ _ _
          refine awp_seq ?_
          refine awp_sreg tt_ok (ks := [2, 9, 71, 72]) (hs := []) [(2, .ref 0 0), (9, .sl 1 1 0 so5.length), (71, vi (w64 ((so5.length : Int) - 1))), (72, vi 0)] [.cells [vi p_r.Steep, .d (L58 p_r.Points)], .data (so5.flatMap cel3)] [] (by kernel_rfl) trivial ?_
          obtain ⟨o17, ho17, h⟩ := Option.bind_eq_some_iff.1 h
          refine awp_cut1 (OutQ (fun (ro17 : (List Int) × Int) => [(4, .d (L3 ro17.1)), (5, vi ro17.2)]) (fun (ro17 : (List Int) × Int) => []) (fun (so17 : (List Int)) => [(2, .ref 0 0), (9, .sl 1 1 0 so17.length)]) (fun (so17 : (List Int)) => [.cells [vi p_r.Steep, .d (L58 p_r.Points)], .data (so17.flatMap cel3)]) o17) ?_ ?_
          · clear h
            have h := ho17
            clear ho17
            refine awp_selQ ?_
            refine awp_wk 2 [2, 9, 71, 72] (by kernel_rfl) [(2, .ref 0 0), (9, .sl 1 1 0 so5.length), (71, vi (w64 ((so5.length : Int) - 1))), (72, vi 0)] [.cells [vi p_r.Steep, .d (L58 p_r.Points)], .data (so5.flatMap cel3)] (by kernel_rfl) (by kernel_rfl) ?_
            refine awp_block ?_
            refine awp_loop (n := fuel) ?_
            refine awpN_ind (fun n (c18 : Int × (List Int)) => F33L2 so5 n c18) o17 (fun (c18 : Int × (List Int)) => [(2, .ref 0 0), (9, .sl 1 1 0 c18.2.length), (71, vi (w64 ((so5.length : Int) - 1))), (72, vi c18.1)]) (fun (c18 : Int × (List Int)) => [.cells [vi p_r.Steep, .d (L58 p_r.Points)], .data (c18.2.flatMap cel3)]) (fun _ => rfl) ?_ fuel (0, so5) h
            clear h
            intro n19 c18 h hrn19
            change F33L2 so5 (n19 + 1) c18 = some o17 at h
            rw [F33L2] at h
            refine awp_sreg tt_ok (ks := [2, 9, 71, 72, 73]) (hs := []) [(2, .ref 0 0), (9, .sl 1 1 0 c18.2.length), (71, vi (w64 ((so5.length : Int) - 1))), (72, vi c18.1), (73, vb (decide (c18.1 < (w64 ((so5.length : Int) - 1)))))] [.cells [vi p_r.Steep, .d (L58 p_r.Points)], .data (c18.2.flatMap cel3)] [] (by kernel_rfl) trivial ?_
            refine awp_seq ?_
            refine awp_cond (b := (decide (c18.1 < (w64 ((so5.length : Int) - 1))))) (by kernel_rfl) (fun hb20 => ?_) (fun hb20 => ?_)
            · rw [if_pos hb20] at h
              refine awp_skip ?_
              show awp _ _ _ _ _ _ _ _
              refine awp_seq ?_
              refine awp_block ?_
              refine awp_sreg tt_ok (ks := [2, 9, 12, 71, 72]) (hs := []) [(2, .ref 0 0), (9, .sl 1 1 0 c18.2.length), (12, vi c18.1), (71, vi (w64 ((so5.length : Int) - 1))), (72, vi c18.1)] [.cells [vi p_r.Steep, .d (L58 p_r.Points)], .data (c18.2.flatMap cel3)] [] (by kernel_rfl) trivial ?_
              obtain ⟨x21, hx21, h⟩ := Option.bind_eq_some_iff.1 h
              obtain ⟨x22, hx22, h⟩ := Option.bind_eq_some_iff.1 h
              obtain ⟨x23, hx23, h⟩ := Option.bind_eq_some_iff.1 h
              refine awp_draw (T' := [(2, .ref 0 0), (9, .sl 1 1 0 c18.2.length), (71, vi (w64 ((so5.length : Int) - 1))), (72, vi c18.1)]) (H' := [.cells [vi p_r.Steep, .d (L58 p_r.Points)], .data ((c18.2.set (w64 (c18.1 + 1)).toNat (w64 (x21 + x22))).flatMap cel3)]) (ps := [(0 ≤ (w64 (c18.1 + 1)) ∧ (w64 (c18.1 + 1)) < (c18.2.length : Int)), LoadOk ((c18.2.flatMap cel3).map .d) (0 + (w64 (c18.1 + 1)).toNat * 1) 1 (([(di x21)] : List D).map .d), (0 ≤ c18.1 ∧ c18.1 < (c18.2.length : Int)), LoadOk ((c18.2.flatMap cel3).map .d) (0 + c18.1.toNat * 1) 1 (([(di x22)] : List D).map .d), (0 ≤ (w64 (c18.1 + 1)) ∧ (w64 (c18.1 + 1)) < (c18.2.length : Int)), StoreOk ((c18.2.flatMap cel3).map .d) (0 + (w64 (c18.1 + 1)).toNat * 1) (([(di (w64 (x21 + x22)))] : List D).map .d) (((c18.2.set (w64 (c18.1 + 1)).toNat (w64 (x21 + x22))).flatMap cel3).map .d)]) tt_ok mixed (ks := [2, 9, 71, 72]) (hs := [.no, .no, .no, .no, .vals (([(di x21)] : List D).map .d), .no, .no, .no, .vals (([(di x22)] : List D).map .d), .no, .no, .cells ((c18.2.set (w64 (c18.1 + 1)).toNat (w64 (x21 + x22))).flatMap cel3)]) (m := 9) (mid := [2, 9, 71, 72, 75, 77, 79, 83, 84, 85]) (by kernel_rfl) (And.intro (idx_bounds hx21) (And.intro (loadOk (j := 0) (es := ([(di x21)] : List D)) cel3_len hx21 rfl rfl rfl (Nat.le_of_ble_eq_true rfl)) (And.intro (idx_bounds hx22) (And.intro (loadOk (j := 0) (es := ([(di x22)] : List D)) cel3_len hx22 rfl rfl rfl (Nat.le_of_ble_eq_true rfl)) (And.intro (idx_bounds hx23) (storeOk (j := 0) (us := ([(di (w64 (x21 + x22)))] : List D)) (y := (w64 (x21 + x22))) cel3_len hx23 rfl rfl (Nat.le_of_ble_eq_true rfl))))))) ?_
              show awp _ _ _ _ _ _ _ _
              refine awp_region (T' := [(2, .ref 0 0), (9, .sl 1 1 0 c18.2.length), (71, vi (w64 ((so5.length : Int) - 1))), (72, vi (w64 (c18.1 + 1)))]) (H' := [.cells [vi p_r.Steep, .d (L58 p_r.Points)], .data ((c18.2.set (w64 (c18.1 + 1)).toNat (w64 (x21 + x22))).flatMap cel3)]) (ps := []) tt_ok (ks := [2, 9, 71, 72]) (hs := []) (by kernel_rfl) trivial ?_
              exact awpN_wk 2 [2, 9, 71, 72] (by kernel_rfl) _ _ (by simp only [List.length_set]; kernel_rfl) (by kernel_rfl) (hrn19 ((w64 (c18.1 + 1)), (c18.2.set (w64 (c18.1 + 1)).toNat (w64 (x21 + x22)))) h)
            · rw [if_neg (ntrue hb20)] at h
              refine awp_exit ?_
              obtain rfl := Option.some.inj h
              exact Sel.mk [0, 1] [2, 9] (by kernel_rfl) (by kernel_rfl) (by kernel_rfl) OutQ.norm
          · intro e T H hq
            cases o17 with
            | inl ro17 =>
              obtain ⟨rfl, rfl, rfl⟩ := hq
              rw [outK_inl] at h
              obtain rfl := Option.some.inj h
              exact main_ret (by kernel_rfl)
            | inr so17 =>
              obtain ⟨rfl, rfl, rfl⟩ := hq
              rw [outK_inr] at h
              show awp _ _ _ _ _ _ _ _
              obtain ⟨x24, hx24, h⟩ := Option.bind_eq_some_iff.1 h
              refine awp_sreg tt_ok (ks := [4, 5]) (hs := []) [(4, .sl 1 1 0 ((p_r.Points.length : Int) - 0).toNat), (5, vi 0)] [.cells [vi p_r.Steep, .d (L58 p_r.Points)], .data (so17.flatMap cel3)] [(0 ≤ (0 : Int) ∧ (0 : Int) ≤ (p_r.Points.length : Int) ∧ (p_r.Points.length : Int) ≤ (so17.length : Int) ∧ ((0 : Int) = 0 ∨ (0 : Int) < (so17.length : Int)))] (by kernel_rfl) ((by have h0 := sub_bounds hx24; exact ⟨h0.1, h0.2.1, h0.2.2, .inl rfl⟩)) ?_
              obtain rfl := Option.some.inj h
              refine awp_wk 2 [4, 5] (by kernel_rfl) [(4, .sl 1 1 0 ((p_r.Points.length : Int) - 0).toNat), (5, vi 0)] [.cells [vi p_r.Steep, .d (L58 p_r.Points)], .data (so17.flatMap cel3)] (by kernel_rfl) (by kernel_rfl) ?_
              refine awp_part 4 1 1 ((p_r.Points.length : Int) - 0).toNat x24.length _ (x24.flatMap cel3) _ _ (by kernel_rfl) (by kernel_rfl) (partOk cel3_len hx24) rfl rfl ?_
              refine awp_wk 2 [4, 5] (by kernel_rfl) [(4, .d (L3 x24)), (5, vi 0)] [.cells [vi p_r.Steep, .d (L58 p_r.Points)], .data (([] : List Int).flatMap cel3)] (by kernel_rfl) (by kernel_rfl) ?_
              exact awp_ret (main_ret (by kernel_rfl))

set_option maxRecDepth 100000 in
theorem ct83  {p_x : Int} {res : Bool} (h : F83 p_x = some res) : PCall Try.prog 83 [(di p_x)] (vb res) := by
  refine PCall.of_awp tt_ok (N := 6) Try.func83 rfl (by kernel_rfl) rfl (Nat.le_of_ble_eq_true rfl) rfl ?_
  unfold F83 at h
  refine awp_sreg tt_ok (ks := [0]) (hs := []) [(0, vi p_x)] [] [] (by kernel_rfl) trivial ?_
  refine awp_sreg tt_ok (ks := [2]) (hs := []) [(2, vb (p_x != p_x))] [] [] (by kernel_rfl) trivial ?_
  obtain rfl := Option.some.inj h
  refine awp_wk 0 [2] (by kernel_rfl) [(2, vb (p_x != p_x))] [] (by kernel_rfl) (by kernel_rfl) ?_
  exact awp_ret (main_ret (by kernel_rfl))

set_option maxRecDepth 100000 in
theorem ct82  {p_x : Int} {y : Int} {res : Int} (h : F82 p_x y = some res) : PCall Try.prog 82 [(di p_x), (di y)] (vi res) := by
  refine PCall.of_awp tt_ok (N := 20) Try.func82 rfl (by kernel_rfl) rfl (Nat.le_of_ble_eq_true rfl) rfl ?_
  unfold F82 at h
  refine awp_sreg tt_ok (ks := [0, 1]) (hs := []) [(0, vi p_x), (1, vi y)] [] [] (by kernel_rfl) trivial ?_
  obtain ⟨x1, hx1, h⟩ := Option.bind_eq_some_iff.1 h
  refine awp_sreg tt_ok (ks := [0, 1, 5]) (hs := [.no, .call [(di p_x)] (vb x1)]) [(0, vi p_x), (1, vi y), (5, vb x1)] [] [PCall Try.prog 83 [(di p_x)] (vb x1)] (by kernel_rfl) (ct83 hx1) ?_
  obtain ⟨x2, hx2, h⟩ := Option.bind_eq_some_iff.1 h
  refine awp_sreg tt_ok (ks := [0, 1, 5, 6]) (hs := [.no, .call [(di y)] (vb x2)]) [(0, vi p_x), (1, vi y), (5, vb x1), (6, vb x2)] [] [PCall Try.prog 83 [(di y)] (vb x2)] (by kernel_rfl) (ct83 hx2) ?_
  refine awp_seq ?_
  refine awp_sreg tt_ok (ks := [0, 1, 6, 11]) (hs := []) [(0, vi p_x), (1, vi y), (6, vb x2), (11, vb x1)] [] [] (by kernel_rfl) trivial ?_
  refine awp_cond (b := x1) (by kernel_rfl) (fun hb3 => ?_) (fun hb3 => ?_)
  · rw [if_pos hb3] at h
    refine awp_seq ?_
    refine awp_sreg tt_ok (ks := [12]) (hs := []) [(12, vb x2)] [] [] (by kernel_rfl) trivial ?_
    refine awp_cond (b := x2) (by kernel_rfl) (fun hb4 => ?_) (fun hb4 => ?_)
    · rw [if_pos hb4] at h
      refine awp_sreg tt_ok (ks := [4]) (hs := []) [(4, vi 0)] [] [] (by kernel_rfl) trivial ?_
      obtain rfl := Option.some.inj h
      refine awp_wk 0 [4] (by kernel_rfl) [(4, vi 0)] [] (by kernel_rfl) (by kernel_rfl) ?_
      exact awp_ret (main_ret (by kernel_rfl))
    · rw [if_neg (ntrue hb4)] at h
      refine awp_skip ?_
      show awp _ _ _ _ _ _ _ _
      refine awp_sreg tt_ok (ks := [4]) (hs := []) [(4, vi (-1))] [] [] (by kernel_rfl) trivial ?_
      obtain rfl := Option.some.inj h
      refine awp_wk 0 [4] (by kernel_rfl) [(4, vi (-1))] [] (by kernel_rfl) (by kernel_rfl) ?_
      exact awp_ret (main_ret (by kernel_rfl))
  · rw [if_neg (ntrue hb3)] at h
    refine awp_skip ?_
    show awp _ _ _ _ _ _ _ _
    refine awp_seq ?_
    refine awp_sreg tt_ok (ks := [0, 1, 13]) (hs := []) [(0, vi p_x), (1, vi y), (13, vb x2)] [] [] (by kernel_rfl) trivial ?_
    refine awp_cond (b := x2) (by kernel_rfl) (fun hb5 => ?_) (fun hb5 => ?_)
    · rw [if_pos hb5] at h
      refine awp_sreg tt_ok (ks := [4]) (hs := []) [(4, vi 1)] [] [] (by kernel_rfl) trivial ?_
      obtain rfl := Option.some.inj h
      refine awp_wk 0 [4] (by kernel_rfl) [(4, vi 1)] [] (by kernel_rfl) (by kernel_rfl) ?_
      exact awp_ret (main_ret (by kernel_rfl))
    · rw [if_neg (ntrue hb5)] at h
      refine awp_skip ?_
      show awp _ _ _ _ _ _ _ _
      refine awp_seq ?_
      refine awp_sreg tt_ok (ks := [0, 1, 16]) (hs := []) [(0, vi p_x), (1, vi y), (16, vb (decide (p_x < y)))] [] [] (by kernel_rfl) trivial ?_
      refine awp_cond (b := (decide (p_x < y))) (by kernel_rfl) (fun hb6 => ?_) (fun hb6 => ?_)
      · rw [if_pos hb6] at h
        refine awp_sreg tt_ok (ks := [4]) (hs := []) [(4, vi (-1))] [] [] (by kernel_rfl) trivial ?_
        obtain rfl := Option.some.inj h
        refine awp_wk 0 [4] (by kernel_rfl) [(4, vi (-1))] [] (by kernel_rfl) (by kernel_rfl) ?_
        exact awp_ret (main_ret (by kernel_rfl))
      · rw [if_neg (ntrue hb6)] at h
        refine awp_skip ?_
        show awp _ _ _ _ _ _ _ _
        refine awp_seq ?_
        refine awp_sreg tt_ok (ks := [19]) (hs := []) [(19, vb (decide (p_x > y)))] [] [] (by kernel_rfl) trivial ?_
        refine awp_cond (b := (decide (p_x > y))) (by kernel_rfl) (fun hb7 => ?_) (fun hb7 => ?_)
        · rw [if_pos hb7] at h
          refine awp_sreg tt_ok (ks := [4]) (hs := []) [(4, vi 1)] [] [] (by kernel_rfl) trivial ?_
          obtain rfl := Option.some.inj h
          refine awp_wk 0 [4] (by kernel_rfl) [(4, vi 1)] [] (by kernel_rfl) (by kernel_rfl) ?_
          exact awp_ret (main_ret (by kernel_rfl))
        · rw [if_neg (ntrue hb7)] at h
          refine awp_skip ?_
          show awp _ _ _ _ _ _ _ _
          refine awp_sreg tt_ok (ks := [4]) (hs := []) [(4, vi 0)] [] [] (by kernel_rfl) trivial ?_
          obtain rfl := Option.some.inj h
          refine awp_wk 0 [4] (by kernel_rfl) [(4, vi 0)] [] (by kernel_rfl) (by kernel_rfl) ?_
          exact awp_ret (main_ret (by kernel_rfl))

set_option maxRecDepth 100000 in
theorem ct78 {fuel : Nat}  {p_s1 : (List Int)} {p_s2 : (List Int)} {res : Int} (h : F78 fuel p_s1 p_s2 = some res) : PCall Try.prog 78 [(L3 p_s1), (L3 p_s2)] (vi res) := by
  refine PCall.of_awp tt_ok (N := 36) Try.func78 rfl (by kernel_rfl) rfl (Nat.le_of_ble_eq_true rfl) rfl ?_
  unfold F78 at h
  refine awp_sreg tt_ok (ks := [0, 1]) (hs := []) [(0, .d (L3 p_s1)), (1, .d (L3 p_s2))] [] [] (by kernel_rfl) trivial ?_
  refine awp_seq ?_
  refine awp_sreg tt_ok (ks := [0, 1, 9, 10, 11]) (hs := []) [(0, .d (L3 p_s1)), (1, .d (L3 p_s2)), (9, .d (L3 p_s1)), (10, vi (p_s1.length : Int)), (11, vi 0)] [] [] (by kernel_rfl) trivial ?_
  obtain ⟨o1, ho1, h⟩ := Option.bind_eq_some_iff.1 h
  refine awp_cut1 (OutQ (fun (ro1 : Int) => [(4, vi ro1)]) (fun (ro1 : Int) => []) (fun (so1 : Unit) => [(0, .d (L3 p_s1)), (1, .d (L3 p_s2))]) (fun (so1 : Unit) => []) o1) ?_ ?_
  · clear h
    have h := ho1
    clear ho1
    refine awp_selQ ?_
    refine awp_wk 0 [0, 1, 9, 10, 11] (by kernel_rfl) [(0, .d (L3 p_s1)), (1, .d (L3 p_s2)), (9, .d (L3 p_s1)), (10, vi (p_s1.length : Int)), (11, vi 0)] [] (by kernel_rfl) (by kernel_rfl) ?_
    refine awp_block ?_
    refine awp_loop (n := fuel) ?_
    refine awpN_ind (fun n (c2 : Int) => F78L1 p_s1 p_s2 n c2) o1 (fun (c2 : Int) => [(0, .d (L3 p_s1)), (1, .d (L3 p_s2)), (9, .d (L3 p_s1)), (10, vi (p_s1.length : Int)), (11, vi c2)]) (fun (c2 : Int) => []) (fun _ => rfl) ?_ fuel 0 h
    clear h
    intro n3 c2 h hrn3
    change F78L1 p_s1 p_s2 (n3 + 1) c2 = some o1 at h
    rw [F78L1] at h
    refine awp_sreg tt_ok (ks := [0, 1, 9, 10, 11, 12]) (hs := []) [(0, .d (L3 p_s1)), (1, .d (L3 p_s2)), (9, .d (L3 p_s1)), (10, vi (p_s1.length : Int)), (11, vi c2), (12, vb (decide (c2 < (p_s1.length : Int))))] [] [] (by kernel_rfl) trivial ?_
    refine awp_seq ?_
    refine awp_cond (b := (decide (c2 < (p_s1.length : Int)))) (by kernel_rfl) (fun hb4 => ?_) (fun hb4 => ?_)
    · rw [if_pos hb4] at h
      refine awp_skip ?_
      show awp _ _ _ _ _ _ _ _
      refine awp_seq ?_
      refine awp_block ?_
      obtain ⟨x5, hx5, h⟩ := Option.bind_eq_some_iff.1 h
      refine awp_sreg tt_ok (ks := [0, 1, 5, 6, 9, 10, 11]) (hs := [.no, .cells (cel3 x5)]) [(0, .d (L3 p_s1)), (1, .d (L3 p_s2)), (5, vi c2), (6, vi x5), (9, .d (L3 p_s1)), (10, vi (p_s1.length : Int)), (11, vi c2)] [] [IX3 p_s1 c2 x5] (by kernel_rfl) (idxOk cel3_len hx5) ?_
      refine awp_seq ?_
      refine awp_sreg tt_ok (ks := [0, 1, 5, 6, 9, 10, 11, 19]) (hs := []) [(0, .d (L3 p_s1)), (1, .d (L3 p_s2)), (5, vi c2), (6, vi x5), (9, .d (L3 p_s1)), (10, vi (p_s1.length : Int)), (11, vi c2), (19, vb (decide (c2 ≥ (p_s2.length : Int))))] [] [] (by kernel_rfl) trivial ?_
      refine awp_cond (b := (decide (c2 ≥ (p_s2.length : Int)))) (by kernel_rfl) (fun hb6 => ?_) (fun hb6 => ?_)
      · rw [if_pos hb6] at h
        refine awp_sreg tt_ok (ks := [4]) (hs := []) [(4, vi 1)] [] [] (by kernel_rfl) trivial ?_
        obtain rfl := Option.some.inj h
        refine awp_wk 0 [4] (by kernel_rfl) [(4, vi 1)] [] (by kernel_rfl) (by kernel_rfl) ?_
        exact awp_ret (Sel.mk [] [4] (by kernel_rfl) (by kernel_rfl) (by kernel_rfl) OutQ.ret)
      · rw [if_neg (ntrue hb6)] at h
        refine awp_skip ?_
        show awp _ _ _ _ _ _ _ _
        obtain ⟨x7, hx7, h⟩ := Option.bind_eq_some_iff.1 h
        refine awp_sreg tt_ok (ks := [0, 1, 6, 7, 9, 10, 11]) (hs := [.no, .no, .cells (cel3 x7)]) [(0, .d (L3 p_s1)), (1, .d (L3 p_s2)), (6, vi x5), (7, vi x7), (9, .d (L3 p_s1)), (10, vi (p_s1.length : Int)), (11, vi c2)] [] [IX3 p_s2 c2 x7] (by kernel_rfl) (idxOk cel3_len hx7) ?_
        obtain ⟨x8, hx8, h⟩ := Option.bind_eq_some_iff.1 h
        refine awp_sreg tt_ok (ks := [0, 1, 8, 9, 10, 11]) (hs := [.no, .no, .call [(di x5), (di x7)] (vi x8)]) [(0, .d (L3 p_s1)), (1, .d (L3 p_s2)), (8, vi x8), (9, .d (L3 p_s1)), (10, vi (p_s1.length : Int)), (11, vi c2)] [] [PCall Try.prog 82 [(di x5), (di x7)] (vi x8)] (by kernel_rfl) (ct82 hx8) ?_
        refine awp_sreg tt_ok (ks := [0, 1, 8, 9, 10, 11, 28]) (hs := []) [(0, .d (L3 p_s1)), (1, .d (L3 p_s2)), (8, vi x8), (9, .d (L3 p_s1)), (10, vi (p_s1.length : Int)), (11, vi c2), (28, vb (x8 != 0))] [] [] (by kernel_rfl) trivial ?_
        refine awp_cond (b := (x8 != 0)) (by kernel_rfl) (fun hb9 => ?_) (fun hb9 => ?_)
        · rw [if_pos hb9] at h
          refine awp_sreg tt_ok (ks := [4]) (hs := []) [(4, vi x8)] [] [] (by kernel_rfl) trivial ?_
          obtain rfl := Option.some.inj h
          refine awp_wk 0 [4] (by kernel_rfl) [(4, vi x8)] [] (by kernel_rfl) (by kernel_rfl) ?_
          exact awp_ret (Sel.mk [] [4] (by kernel_rfl) (by kernel_rfl) (by kernel_rfl) OutQ.ret)
        · rw [if_neg (ntrue hb9)] at h
          refine awp_skip ?_
          show awp _ _ _ _ _ _ _ _
          refine awp_region (T' := [(0, .d (L3 p_s1)), (1, .d (L3 p_s2)), (9, .d (L3 p_s1)), (10, vi (p_s1.length : Int)), (11, vi (w64 (c2 + 1)))]) (H' := []) (ps := []) tt_ok (ks := [0, 1, 9, 10, 11]) (hs := []) (by kernel_rfl) trivial ?_
          exact awpN_wk 0 [0, 1, 9, 10, 11] (by kernel_rfl) _ _ (by kernel_rfl) (by kernel_rfl) (hrn3 (w64 (c2 + 1)) h)
    · rw [if_neg (ntrue hb4)] at h
      refine awp_exit ?_
      obtain rfl := Option.some.inj h
      exact Sel.mk [] [0, 1] (by kernel_rfl) (by kernel_rfl) (by kernel_rfl) OutQ.norm
  · intro e T H hq
    cases o1 with
    | inl ro1 =>
      obtain ⟨rfl, rfl, rfl⟩ := hq
      rw [outK_inl] at h
      obtain rfl := Option.some.inj h
      exact main_ret (by kernel_rfl)
    | inr so1 =>
      obtain ⟨rfl, rfl, rfl⟩ := hq
      rw [outK_inr] at h
      show awp _ _ _ _ _ _ _ _
      refine awp_seq ?_
      refine awp_sreg tt_ok (ks := [35]) (hs := []) [(35, vb (decide ((p_s1.length : Int) < (p_s2.length : Int))))] [] [] (by kernel_rfl) trivial ?_
      refine awp_cond (b := (decide ((p_s1.length : Int) < (p_s2.length : Int)))) (by kernel_rfl) (fun hb10 => ?_) (fun hb10 => ?_)
      · rw [if_pos hb10] at h
        refine awp_sreg tt_ok (ks := [4]) (hs := []) [(4, vi (-1))] [] [] (by kernel_rfl) trivial ?_
        obtain rfl := Option.some.inj h
        refine awp_wk 0 [4] (by kernel_rfl) [(4, vi (-1))] [] (by kernel_rfl) (by kernel_rfl) ?_
        exact awp_ret (main_ret (by kernel_rfl))
      · rw [if_neg (ntrue hb10)] at h
        refine awp_skip ?_
        show awp _ _ _ _ _ _ _ _
        refine awp_sreg tt_ok (ks := [4]) (hs := []) [(4, vi 0)] [] [] (by kernel_rfl) trivial ?_
        obtain rfl := Option.some.inj h
        refine awp_wk 0 [4] (by kernel_rfl) [(4, vi 0)] [] (by kernel_rfl) (by kernel_rfl) ?_
        exact awp_ret (main_ret (by kernel_rfl))

set_option maxRecDepth 100000 in
theorem ct66 {fuel : Nat}  {p_n : S_carve_needs} {p_m : S_carve_needs} {res : Int} (h : F66 fuel p_n p_m = some res) : PCall Try.prog 66 [(.agg [(di p_n.e0), (di p_n.e1)]), (.agg [(di p_m.e0), (di p_m.e1)])] (vi res) := by
  refine PCall.of_awp tt_ok (N := 8) Try.func66 rfl (by kernel_rfl) rfl (Nat.le_of_ble_eq_true rfl) rfl ?_
  unfold F66 at h
  refine awp_sreg tt_ok (ks := [2, 3]) (hs := []) [(2, .ref 0 0), (3, .ref 1 0)] [.cells [vi p_n.e0, vi p_n.e1], .cells [vi p_m.e0, vi p_m.e1]] [] (by kernel_rfl) trivial ?_
  obtain ⟨x1, hx1, h⟩ := Option.bind_eq_some_iff.1 h
  refine awp_sdraw tt_ok mixed (ks := [4]) (hs := [.no, .no, .call [(L3 ([p_n.e0, p_n.e1] : List Int)), (L3 ([p_m.e0, p_m.e1] : List Int))] (vi x1)]) 2 [4, 5, 6, 7] [(4, vi x1)] [.cells [vi p_n.e0, vi p_n.e1], .cells [vi p_m.e0, vi p_m.e1]] [(0 ≤ (0 : Int) ∧ (0 : Int) ≤ ((2 : Nat) : Int) ∧ ((2 : Nat) : Int) ≤ ((2 : Nat) : Int) ∧ ((0 : Int) = 0 ∨ (0 : Int) < ((2 : Nat) : Int)) ∧ 0 + 2 * 1 ≤ 2 ∧ 2 ≤ 9223372036854775807), (0 ≤ (0 : Int) ∧ (0 : Int) ≤ ((2 : Nat) : Int) ∧ ((2 : Nat) : Int) ≤ ((2 : Nat) : Int) ∧ ((0 : Int) = 0 ∨ (0 : Int) < ((2 : Nat) : Int)) ∧ 0 + 2 * 1 ≤ 2 ∧ 2 ≤ 9223372036854775807), argsOk [.cells [vi p_n.e0, vi p_n.e1], .cells [vi p_m.e0, vi p_m.e1]] [.sl 1 0 0 2, .sl 1 1 0 2] [(L3 ([p_n.e0, p_n.e1] : List Int)), (L3 ([p_m.e0, p_m.e1] : List Int))], PCall Try.prog 78 [(L3 ([p_n.e0, p_n.e1] : List Int)), (L3 ([p_m.e0, p_m.e1] : List Int))] (vi x1)] (by kernel_rfl) (And.intro ((by decide : (0 ≤ (0 : Int) ∧ (0 : Int) ≤ ((2 : Nat) : Int) ∧ ((2 : Nat) : Int) ≤ ((2 : Nat) : Int) ∧ ((0 : Int) = 0 ∨ (0 : Int) < ((2 : Nat) : Int)) ∧ 0 + 2 * 1 ≤ 2 ∧ 2 ≤ 9223372036854775807))) (And.intro ((by decide : (0 ≤ (0 : Int) ∧ (0 : Int) ≤ ((2 : Nat) : Int) ∧ ((2 : Nat) : Int) ≤ ((2 : Nat) : Int) ∧ ((0 : Int) = 0 ∨ (0 : Int) < ((2 : Nat) : Int)) ∧ 0 + 2 * 1 ≤ 2 ∧ 2 ≤ 9223372036854775807))) (And.intro ((And.intro (⟨rfl, rfl, rfl, _, rfl, rfl, Nat.le_of_ble_eq_true rfl⟩) (And.intro (⟨rfl, rfl, rfl, _, rfl, rfl, Nat.le_of_ble_eq_true rfl⟩) trivial))) (ct78 hx1)))) ?_
  obtain rfl := Option.some.inj h
  refine awp_wk 2 [4] (by kernel_rfl) [(4, vi x1)] [.cells [vi p_n.e0, vi p_n.e1], .cells [vi p_m.e0, vi p_m.e1]] (by kernel_rfl) (by kernel_rfl) ?_
  exact awp_ret (main_ret (by kernel_rfl))

set_option maxRecDepth 100000 in
theorem ct67 {fuel : Nat}  {p_n : S_carve_needs} {p_m : S_carve_needs} {res : Int} (h : F67 fuel p_n p_m = some res) : PCall Try.prog 67 [(.agg [(di p_n.e0), (di p_n.e1)]), (.agg [(di p_m.e0), (di p_m.e1)])] (vi res) := by
  refine PCall.of_awp tt_ok (N := 24) Try.func67 rfl (by kernel_rfl) rfl (Nat.le_of_ble_eq_true rfl) rfl ?_
  unfold F67 at h
  refine awp_sreg tt_ok (ks := [2, 3]) (hs := []) [(2, .ref 0 0), (3, .ref 1 0)] [.cells [vi p_n.e0, vi p_n.e1], .cells [vi p_m.e0, vi p_m.e1]] [] (by kernel_rfl) trivial ?_
  refine awp_sreg tt_ok (ks := [2, 3, 5, 6]) (hs := []) [(2, .ref 0 0), (3, .ref 1 0), (5, .ref 2 0), (6, .ref 3 0)] [.cells [vi p_n.e0, vi p_n.e1], .cells [vi p_m.e0, vi p_m.e1], .cells [vi 0, vi 0], .cells [vi 0, vi 0]] [] (by kernel_rfl) trivial ?_
  refine awp_sdraw tt_ok mixed (ks := [3, 5, 6]) (hs := []) 6 [3, 5, 6, 7, 12] [(3, .ref 1 0), (5, .ref 2 0), (6, .ref 3 0)] [.cells [vi p_n.e0, vi p_n.e1], .cells [vi p_m.e0, vi p_m.e1], .cells [vi p_n.e1, vi p_n.e0], .cells [vi 0, vi 0]] [(0 ≤ (0 : Int) ∧ (0 : Int) ≤ ((2 : Nat) : Int) ∧ ((2 : Nat) : Int) ≤ ((2 : Nat) : Int) ∧ ((0 : Int) = 0 ∨ (0 : Int) < ((2 : Nat) : Int)) ∧ 0 + 2 * 1 ≤ 2 ∧ 2 ≤ 9223372036854775807), (0 ≤ (1 : Int) ∧ (1 : Int) < (2 : Int)), (0 ≤ (0 : Int) ∧ (0 : Int) < (2 : Int))] (by kernel_rfl) (And.intro ((by decide : (0 ≤ (0 : Int) ∧ (0 : Int) ≤ ((2 : Nat) : Int) ∧ ((2 : Nat) : Int) ≤ ((2 : Nat) : Int) ∧ ((0 : Int) = 0 ∨ (0 : Int) < ((2 : Nat) : Int)) ∧ 0 + 2 * 1 ≤ 2 ∧ 2 ≤ 9223372036854775807))) (And.intro ((by decide : 0 ≤ (1 : Int) ∧ (1 : Int) < (2 : Int))) ((by decide : 0 ≤ (0 : Int) ∧ (0 : Int) < (2 : Int))))) ?_
  refine awp_sdraw tt_ok mixed (ks := [5, 6]) (hs := []) 6 [5, 6, 14, 19] [(5, .ref 2 0), (6, .ref 3 0)] [.cells [vi p_n.e0, vi p_n.e1], .cells [vi p_m.e0, vi p_m.e1], .cells [vi p_n.e1, vi p_n.e0], .cells [vi p_m.e1, vi p_m.e0]] [(0 ≤ (0 : Int) ∧ (0 : Int) ≤ ((2 : Nat) : Int) ∧ ((2 : Nat) : Int) ≤ ((2 : Nat) : Int) ∧ ((0 : Int) = 0 ∨ (0 : Int) < ((2 : Nat) : Int)) ∧ 0 + 2 * 1 ≤ 2 ∧ 2 ≤ 9223372036854775807), (0 ≤ (1 : Int) ∧ (1 : Int) < (2 : Int)), (0 ≤ (0 : Int) ∧ (0 : Int) < (2 : Int))] (by kernel_rfl) (And.intro ((by decide : (0 ≤ (0 : Int) ∧ (0 : Int) ≤ ((2 : Nat) : Int) ∧ ((2 : Nat) : Int) ≤ ((2 : Nat) : Int) ∧ ((0 : Int) = 0 ∨ (0 : Int) < ((2 : Nat) : Int)) ∧ 0 + 2 * 1 ≤ 2 ∧ 2 ≤ 9223372036854775807))) (And.intro ((by decide : 0 ≤ (1 : Int) ∧ (1 : Int) < (2 : Int))) ((by decide : 0 ≤ (0 : Int) ∧ (0 : Int) < (2 : Int))))) ?_
  obtain ⟨x1, hx1, h⟩ := Option.bind_eq_some_iff.1 h
  refine awp_sreg tt_ok (ks := [4]) (hs := [.no, .no, .call [(.agg [(di p_n.e1), (di p_n.e0)]), (.agg [(di p_m.e1), (di p_m.e0)])] (vi x1)]) [(4, vi x1)] [.cells [vi p_n.e0, vi p_n.e1], .cells [vi p_m.e0, vi p_m.e1], .cells [vi p_n.e1, vi p_n.e0], .cells [vi p_m.e1, vi p_m.e0]] [PCall Try.prog 66 [(.agg [(di p_n.e1), (di p_n.e0)]), (.agg [(di p_m.e1), (di p_m.e0)])] (vi x1)] (by kernel_rfl) (ct66 hx1) ?_
  obtain rfl := Option.some.inj h
  refine awp_wk 4 [4] (by kernel_rfl) [(4, vi x1)] [.cells [vi p_n.e0, vi p_n.e1], .cells [vi p_m.e0, vi p_m.e1], .cells [vi p_n.e1, vi p_n.e0], .cells [vi p_m.e1, vi p_m.e0]] (by kernel_rfl) (by kernel_rfl) ?_
  exact awp_ret (main_ret (by kernel_rfl))

set_option maxRecDepth 100000 in
theorem ct68 {rec30 : Int → Int → S_api_Span → (List S_api_Span) → Int → (List S_api_CvPoint) → (List (S_carve_state × S_carve_rest)) → Bool → Option (S_carve_rest × (List (S_carve_state × S_carve_rest)))} (hrec30 : ∀ (at_ : Int) (deep : Int) (before : S_api_Span) (b0x0 : List S_api_Span) (b3x0 : Int) (b3x1 : List S_api_CvPoint) (m5 : List (S_carve_state × S_carve_rest)) (b7x0 : Bool) (res : S_carve_rest × (List (S_carve_state × S_carve_rest))), rec30 at_ deep before b0x0 b3x0 b3x1 m5 b7x0 = some res → HCall Try.prog 65 [vi at_, vi deep, .d (.agg [(di before.Lo), (di before.Hi)]), .ref 0 0, .ref 1 0, .ref 7 0] [.cells [.d (L56 b0x0)], .cells [.fn (.func 64) [] [.ref 2 0, .ref 3 0]], .cells [.fn (.func 68) [] [.ref 3 0, .ref 4 0, .ref 6 0]], .cells [vi b3x0, .d (L58 b3x1)], .cells [.mp 5], .map (mpo95x99 m5), .cells [.fn (.func 65) [] [.ref 0 0, .ref 1 0, .ref 7 0]], .cells [vb b7x0]] (.d (.agg [(di res.1.needs.e0), (di res.1.needs.e1), (di res.1.next)])) [.cells [.d (L56 b0x0)], .cells [.fn (.func 64) [] [.ref 2 0, .ref 3 0]], .cells [.fn (.func 68) [] [.ref 3 0, .ref 4 0, .ref 6 0]], .cells [vi b3x0, .d (L58 b3x1)], .cells [.mp 5], .map (mpo95x99 res.2), .cells [.fn (.func 65) [] [.ref 0 0, .ref 1 0, .ref 7 0]], .cells [vb b7x0]]) {p_s : S_carve_state} {b0x0 : Int} {b0x1 : List S_api_CvPoint} {m2 : List (S_carve_state × S_carve_rest)} {b4x0 : List S_api_Span} {b7x0 : Bool} {res : S_carve_rest × (List (S_carve_state × S_carve_rest))} (h : F68 rec30 p_s b0x0 b0x1 m2 b4x0 b7x0 = some res) : HCall Try.prog 68 [.d (.agg [(di p_s.at_), (di p_s.high)]), .ref 0 0, .ref 1 0, .ref 3 0] [.cells [vi b0x0, .d (L58 b0x1)], .cells [.mp 2], .map (mpo95x99 m2), .cells [.fn (.func 65) [] [.ref 4 0, .ref 5 0, .ref 7 0]], .cells [.d (L56 b4x0)], .cells [.fn (.func 64) [] [.ref 6 0, .ref 0 0]], .cells [.fn (.func 68) [] [.ref 0 0, .ref 1 0, .ref 3 0]], .cells [vb b7x0]] (.d (.agg [(di res.1.needs.e0), (di res.1.needs.e1), (di res.1.next)])) [.cells [vi b0x0, .d (L58 b0x1)], .cells [.mp 2], .map (mpo95x99 res.2), .cells [.fn (.func 65) [] [.ref 4 0, .ref 5 0, .ref 7 0]], .cells [.d (L56 b4x0)], .cells [.fn (.func 64) [] [.ref 6 0, .ref 0 0]], .cells [.fn (.func 68) [] [.ref 0 0, .ref 1 0, .ref 3 0]], .cells [vb b7x0]] := by
  refine HCall.of_awpS tt_ok (N := 55) (fl := 8) Try.func68 rfl (by kernel_rfl) rfl rfl (Nat.le_of_ble_eq_true rfl) ?_
  unfold F68 at h
  refine awp_sreg tt_ok (ks := [1, 2, 3, 4, 5]) (hs := []) [(1, .ref 0 0), (2, .ref 1 0), (3, .ref 3 0), (4, .ref 8 0), (5, .ref 9 0)] [.cells [vi b0x0, .d (L58 b0x1)], .cells [.mp 2], .map (mpo95x99 m2), .cells [.fn (.func 65) [] [.ref 4 0, .ref 5 0, .ref 7 0]], .cells [.d (L56 b4x0)], .cells [.fn (.func 64) [] [.ref 6 0, .ref 0 0]], .cells [.fn (.func 68) [] [.ref 0 0, .ref 1 0, .ref 3 0]], .cells [vb b7x0], .cells [vi p_s.at_, vi p_s.high], .cells [vi 0, vi 0, vi 0]] [] (by kernel_rfl) trivial ?_
  refine awp_seq ?_
  refine awp_sreg tt_ok (ks := [1, 2, 3, 4, 5, 14]) (hs := []) [(1, .ref 0 0), (2, .ref 1 0), (3, .ref 3 0), (4, .ref 8 0), (5, .ref 9 0), (14, vb (p_s.at_ == (w64 ((b0x1.length : Int) - 1))))] [.cells [vi b0x0, .d (L58 b0x1)], .cells [.mp 2], .map (mpo95x99 m2), .cells [.fn (.func 65) [] [.ref 4 0, .ref 5 0, .ref 7 0]], .cells [.d (L56 b4x0)], .cells [.fn (.func 64) [] [.ref 6 0, .ref 0 0]], .cells [.fn (.func 68) [] [.ref 0 0, .ref 1 0, .ref 3 0]], .cells [vb b7x0], .cells [vi p_s.at_, vi p_s.high], .cells [vi 0, vi 0, vi 0]] [] (by kernel_rfl) trivial ?_
  refine awp_cond (b := (p_s.at_ == (w64 ((b0x1.length : Int) - 1)))) (by kernel_rfl) (fun hb1 => ?_) (fun hb1 => ?_)
  · rw [if_pos hb1] at h
    refine awp_sreg tt_ok (ks := [5]) (hs := []) [(5, .ref 9 0)] [.cells [vi b0x0, .d (L58 b0x1)], .cells [.mp 2], .map (mpo95x99 m2), .cells [.fn (.func 65) [] [.ref 4 0, .ref 5 0, .ref 7 0]], .cells [.d (L56 b4x0)], .cells [.fn (.func 64) [] [.ref 6 0, .ref 0 0]], .cells [.fn (.func 68) [] [.ref 0 0, .ref 1 0, .ref 3 0]], .cells [vb b7x0], .cells [vi p_s.at_, vi p_s.high], .cells [vi 0, vi 0, vi 0]] [] (by kernel_rfl) trivial ?_
    obtain rfl := Option.some.inj h
    refine awp_wk 10 [5] (by kernel_rfl) [(5, .ref 9 0)] [.cells [vi b0x0, .d (L58 b0x1)], .cells [.mp 2], .map (mpo95x99 m2), .cells [.fn (.func 65) [] [.ref 4 0, .ref 5 0, .ref 7 0]], .cells [.d (L56 b4x0)], .cells [.fn (.func 64) [] [.ref 6 0, .ref 0 0]], .cells [.fn (.func 68) [] [.ref 0 0, .ref 1 0, .ref 3 0]], .cells [vb b7x0], .cells [vi p_s.at_, vi p_s.high], .cells [vi 0, vi 0, vi 0]] (by kernel_rfl) (by kernel_rfl) ?_
    exact awp_ret (main_retS [0, 1, 2, 3, 4, 5, 6, 7] (.d (.agg [(di 0), (di 0), (di 0)])) (by kernel_rfl) (by kernel_rfl) (by kernel_rfl) (by kernel_rfl))
  · rw [if_neg (ntrue hb1)] at h
    refine awp_skip ?_
    show awp _ _ _ _ _ _ _ _
    refine awp_sreg tt_ok (ks := [1, 2, 3, 4, 5, 6, 7]) (hs := [.no, .no, .look (.agg [(di ((mget eqk95 p_s m2).getD (⟨(⟨0, 0⟩ : S_carve_needs), 0⟩ : S_carve_rest)).needs.e0), (di ((mget eqk95 p_s m2).getD (⟨(⟨0, 0⟩ : S_carve_needs), 0⟩ : S_carve_rest)).needs.e1), (di ((mget eqk95 p_s m2).getD (⟨(⟨0, 0⟩ : S_carve_needs), 0⟩ : S_carve_rest)).next)]) (mget eqk95 p_s m2).isSome]) [(1, .ref 0 0), (2, .ref 1 0), (3, .ref 3 0), (4, .ref 8 0), (5, .ref 9 0), (6, .ref 10 0), (7, vb (mget eqk95 p_s m2).isSome)] [.cells [vi b0x0, .d (L58 b0x1)], .cells [.mp 2], .map (mpo95x99 m2), .cells [.fn (.func 65) [] [.ref 4 0, .ref 5 0, .ref 7 0]], .cells [.d (L56 b4x0)], .cells [.fn (.func 64) [] [.ref 6 0, .ref 0 0]], .cells [.fn (.func 68) [] [.ref 0 0, .ref 1 0, .ref 3 0]], .cells [vb b7x0], .cells [vi p_s.at_, vi p_s.high], .cells [vi 0, vi 0, vi 0], .cells [vi ((mget eqk95 p_s m2).getD (⟨(⟨0, 0⟩ : S_carve_needs), 0⟩ : S_carve_rest)).needs.e0, vi ((mget eqk95 p_s m2).getD (⟨(⟨0, 0⟩ : S_carve_needs), 0⟩ : S_carve_rest)).needs.e1, vi ((mget eqk95 p_s m2).getD (⟨(⟨0, 0⟩ : S_carve_needs), 0⟩ : S_carve_rest)).next]] [LookOk (mpo95x99 m2) (.agg [(di p_s.at_), (di p_s.high)]) (.agg [(di 0), (di 0), (di 0)]) (.agg [(di ((mget eqk95 p_s m2).getD (⟨(⟨0, 0⟩ : S_carve_needs), 0⟩ : S_carve_rest)).needs.e0), (di ((mget eqk95 p_s m2).getD (⟨(⟨0, 0⟩ : S_carve_needs), 0⟩ : S_carve_rest)).needs.e1), (di ((mget eqk95 p_s m2).getD (⟨(⟨0, 0⟩ : S_carve_needs), 0⟩ : S_carve_rest)).next)]) (mget eqk95 p_s m2).isSome] (by kernel_rfl) (lookOk (fk := dat95) (fv := dat99) eqk95_ok rfl p_s m2) ?_
    refine awp_seq ?_
    refine awp_sreg tt_ok (ks := [1, 2, 3, 4, 5, 6, 23]) (hs := []) [(1, .ref 0 0), (2, .ref 1 0), (3, .ref 3 0), (4, .ref 8 0), (5, .ref 9 0), (6, .ref 10 0), (23, vb (!(mget eqk95 p_s m2).isSome))] [.cells [vi b0x0, .d (L58 b0x1)], .cells [.mp 2], .map (mpo95x99 m2), .cells [.fn (.func 65) [] [.ref 4 0, .ref 5 0, .ref 7 0]], .cells [.d (L56 b4x0)], .cells [.fn (.func 64) [] [.ref 6 0, .ref 0 0]], .cells [.fn (.func 68) [] [.ref 0 0, .ref 1 0, .ref 3 0]], .cells [vb b7x0], .cells [vi p_s.at_, vi p_s.high], .cells [vi 0, vi 0, vi 0], .cells [vi ((mget eqk95 p_s m2).getD (⟨(⟨0, 0⟩ : S_carve_needs), 0⟩ : S_carve_rest)).needs.e0, vi ((mget eqk95 p_s m2).getD (⟨(⟨0, 0⟩ : S_carve_needs), 0⟩ : S_carve_rest)).needs.e1, vi ((mget eqk95 p_s m2).getD (⟨(⟨0, 0⟩ : S_carve_needs), 0⟩ : S_carve_rest)).next]] [] (by kernel_rfl) trivial ?_
    refine awp_cond (b := (!(mget eqk95 p_s m2).isSome)) (by kernel_rfl) (fun hb2 => ?_) (fun hb2 => ?_)
    · rw [if_pos hb2] at h
      obtain ⟨x3, hx3, h⟩ := Option.bind_eq_some_iff.1 h
      obtain ⟨x4, hx4, h⟩ := Option.bind_eq_some_iff.1 h
      refine awp_sdraw tt_ok mixed (ks := [2, 4, 5, 6]) (hs := [.no, .no, .no, .no, .no, .no, .no, .no, .cells (cel58 x3), .no, .no, .no, .no, .no, .no, .no, .no, .no, .no, .no, .no, .no, .no, .no, .no, .no, .hcall [(4, false), (5, false), (6, false), (0, false), (1, false), (2, false), (3, false), (7, false)] (.d (.agg [(di x4.1.needs.e0), (di x4.1.needs.e1), (di x4.1.next)])) [.cells [.d (L56 b4x0)], .cells [.fn (.func 64) [] [.ref 2 0, .ref 3 0]], .cells [.fn (.func 68) [] [.ref 3 0, .ref 4 0, .ref 6 0]], .cells [vi b0x0, .d (L58 b0x1)], .cells [.mp 5], .map (mpo95x99 x4.2), .cells [.fn (.func 65) [] [.ref 0 0, .ref 1 0, .ref 7 0]], .cells [vb b7x0]]]) 26 [2, 4, 5, 6, 24, 27, 38, 49, 50] [(2, .ref 1 0), (4, .ref 8 0), (5, .ref 9 0), (6, .ref 10 0)] [.cells [vi b0x0, .d (L58 b0x1)], .cells [.mp 2], .map (mpo95x99 x4.2), .cells [.fn (.func 65) [] [.ref 4 0, .ref 5 0, .ref 7 0]], .cells [.d (L56 b4x0)], .cells [.fn (.func 64) [] [.ref 6 0, .ref 0 0]], .cells [.fn (.func 68) [] [.ref 0 0, .ref 1 0, .ref 3 0]], .cells [vb b7x0], .cells [vi p_s.at_, vi p_s.high], .cells [vi 0, vi 0, vi 0], .cells [vi x4.1.needs.e0, vi x4.1.needs.e1, vi x4.1.next]] [IX58 b0x1 p_s.at_ x3, HCall Try.prog 65 [vi (w64 (p_s.at_ + 1)), vi (if (w64 (x3.Board - p_s.high)) > 0 then (w64 (x3.Board - p_s.high)) else 0), .d (.agg [(di (w64 (p_s.high - b0x0))), (di (w64 (p_s.high + b0x0)))]), .ref 0 0, .ref 1 0, .ref 7 0] [.cells [.d (L56 b4x0)], .cells [.fn (.func 64) [] [.ref 2 0, .ref 3 0]], .cells [.fn (.func 68) [] [.ref 3 0, .ref 4 0, .ref 6 0]], .cells [vi b0x0, .d (L58 b0x1)], .cells [.mp 5], .map (mpo95x99 m2), .cells [.fn (.func 65) [] [.ref 0 0, .ref 1 0, .ref 7 0]], .cells [vb b7x0]] (.d (.agg [(di x4.1.needs.e0), (di x4.1.needs.e1), (di x4.1.next)])) [.cells [.d (L56 b4x0)], .cells [.fn (.func 64) [] [.ref 2 0, .ref 3 0]], .cells [.fn (.func 68) [] [.ref 3 0, .ref 4 0, .ref 6 0]], .cells [vi b0x0, .d (L58 b0x1)], .cells [.mp 5], .map (mpo95x99 x4.2), .cells [.fn (.func 65) [] [.ref 0 0, .ref 1 0, .ref 7 0]], .cells [vb b7x0]]] (by kernel_rfl) (And.intro (idxOk cel58_len hx3) (hrec30 _ _ _ _ _ _ _ _ _ hx4)) ?_
      refine awp_region (T' := [(5, .ref 9 0), (6, .ref 10 0)]) (H' := [.cells [vi b0x0, .d (L58 b0x1)], .cells [.mp 2], .map (mpo95x99 (mset eqk95 p_s (⟨(⟨x4.1.needs.e0, x4.1.needs.e1⟩ : S_carve_needs), x4.1.next⟩ : S_carve_rest) x4.2)), .cells [.fn (.func 65) [] [.ref 4 0, .ref 5 0, .ref 7 0]], .cells [.d (L56 b4x0)], .cells [.fn (.func 64) [] [.ref 6 0, .ref 0 0]], .cells [.fn (.func 68) [] [.ref 0 0, .ref 1 0, .ref 3 0]], .cells [vb b7x0], .cells [vi p_s.at_, vi p_s.high], .cells [vi 0, vi 0, vi 0], .cells [vi x4.1.needs.e0, vi x4.1.needs.e1, vi x4.1.next]]) (ps := [(setD (.agg [(di p_s.at_), (di p_s.high)]) (.agg [(di x4.1.needs.e0), (di x4.1.needs.e1), (di x4.1.next)]) (mpo95x99 x4.2) = some (mpo95x99 (mset eqk95 p_s (⟨(⟨x4.1.needs.e0, x4.1.needs.e1⟩ : S_carve_needs), x4.1.next⟩ : S_carve_rest) x4.2)))]) tt_ok (ks := [5, 6]) (hs := [.no, .no, .no, .kvs (mpo95x99 (mset eqk95 p_s (⟨(⟨x4.1.needs.e0, x4.1.needs.e1⟩ : S_carve_needs), x4.1.next⟩ : S_carve_rest) x4.2))]) (by kernel_rfl) (setOk (fk := dat95) (fv := dat99) eqk95_ok p_s (⟨(⟨x4.1.needs.e0, x4.1.needs.e1⟩ : S_carve_needs), x4.1.next⟩ : S_carve_rest) x4.2) ?_
      show awp _ _ _ _ _ _ _ _
      refine awp_sreg tt_ok (ks := [5]) (hs := []) [(5, .ref 9 0)] [.cells [vi b0x0, .d (L58 b0x1)], .cells [.mp 2], .map (mpo95x99 (mset eqk95 p_s (⟨(⟨x4.1.needs.e0, x4.1.needs.e1⟩ : S_carve_needs), x4.1.next⟩ : S_carve_rest) x4.2)), .cells [.fn (.func 65) [] [.ref 4 0, .ref 5 0, .ref 7 0]], .cells [.d (L56 b4x0)], .cells [.fn (.func 64) [] [.ref 6 0, .ref 0 0]], .cells [.fn (.func 68) [] [.ref 0 0, .ref 1 0, .ref 3 0]], .cells [vb b7x0], .cells [vi p_s.at_, vi p_s.high], .cells [vi x4.1.needs.e0, vi x4.1.needs.e1, vi x4.1.next], .cells [vi x4.1.needs.e0, vi x4.1.needs.e1, vi x4.1.next]] [] (by kernel_rfl) trivial ?_
      obtain rfl := Option.some.inj h
      refine awp_wk 11 [5] (by kernel_rfl) [(5, .ref 9 0)] [.cells [vi b0x0, .d (L58 b0x1)], .cells [.mp 2], .map (mpo95x99 (mset eqk95 p_s (⟨(⟨x4.1.needs.e0, x4.1.needs.e1⟩ : S_carve_needs), x4.1.next⟩ : S_carve_rest) x4.2)), .cells [.fn (.func 65) [] [.ref 4 0, .ref 5 0, .ref 7 0]], .cells [.d (L56 b4x0)], .cells [.fn (.func 64) [] [.ref 6 0, .ref 0 0]], .cells [.fn (.func 68) [] [.ref 0 0, .ref 1 0, .ref 3 0]], .cells [vb b7x0], .cells [vi p_s.at_, vi p_s.high], .cells [vi x4.1.needs.e0, vi x4.1.needs.e1, vi x4.1.next], .cells [vi x4.1.needs.e0, vi x4.1.needs.e1, vi x4.1.next]] (by kernel_rfl) (by kernel_rfl) ?_
      exact awp_ret (main_retS [0, 1, 2, 3, 4, 5, 6, 7] (.d (.agg [(di x4.1.needs.e0), (di x4.1.needs.e1), (di x4.1.next)])) (by kernel_rfl) (by kernel_rfl) (by kernel_rfl) (by kernel_rfl))
    · rw [if_neg (ntrue hb2)] at h
      refine awp_skip ?_
      show awp _ _ _ _ _ _ _ _
      refine awp_sreg tt_ok (ks := [5]) (hs := []) [(5, .ref 9 0)] [.cells [vi b0x0, .d (L58 b0x1)], .cells [.mp 2], .map (mpo95x99 m2), .cells [.fn (.func 65) [] [.ref 4 0, .ref 5 0, .ref 7 0]], .cells [.d (L56 b4x0)], .cells [.fn (.func 64) [] [.ref 6 0, .ref 0 0]], .cells [.fn (.func 68) [] [.ref 0 0, .ref 1 0, .ref 3 0]], .cells [vb b7x0], .cells [vi p_s.at_, vi p_s.high], .cells [vi ((mget eqk95 p_s m2).getD (⟨(⟨0, 0⟩ : S_carve_needs), 0⟩ : S_carve_rest)).needs.e0, vi ((mget eqk95 p_s m2).getD (⟨(⟨0, 0⟩ : S_carve_needs), 0⟩ : S_carve_rest)).needs.e1, vi ((mget eqk95 p_s m2).getD (⟨(⟨0, 0⟩ : S_carve_needs), 0⟩ : S_carve_rest)).next], .cells [vi ((mget eqk95 p_s m2).getD (⟨(⟨0, 0⟩ : S_carve_needs), 0⟩ : S_carve_rest)).needs.e0, vi ((mget eqk95 p_s m2).getD (⟨(⟨0, 0⟩ : S_carve_needs), 0⟩ : S_carve_rest)).needs.e1, vi ((mget eqk95 p_s m2).getD (⟨(⟨0, 0⟩ : S_carve_needs), 0⟩ : S_carve_rest)).next]] [] (by kernel_rfl) trivial ?_
      obtain rfl := Option.some.inj h
      refine awp_wk 11 [5] (by kernel_rfl) [(5, .ref 9 0)] [.cells [vi b0x0, .d (L58 b0x1)], .cells [.mp 2], .map (mpo95x99 m2), .cells [.fn (.func 65) [] [.ref 4 0, .ref 5 0, .ref 7 0]], .cells [.d (L56 b4x0)], .cells [.fn (.func 64) [] [.ref 6 0, .ref 0 0]], .cells [.fn (.func 68) [] [.ref 0 0, .ref 1 0, .ref 3 0]], .cells [vb b7x0], .cells [vi p_s.at_, vi p_s.high], .cells [vi ((mget eqk95 p_s m2).getD (⟨(⟨0, 0⟩ : S_carve_needs), 0⟩ : S_carve_rest)).needs.e0, vi ((mget eqk95 p_s m2).getD (⟨(⟨0, 0⟩ : S_carve_needs), 0⟩ : S_carve_rest)).needs.e1, vi ((mget eqk95 p_s m2).getD (⟨(⟨0, 0⟩ : S_carve_needs), 0⟩ : S_carve_rest)).next], .cells [vi ((mget eqk95 p_s m2).getD (⟨(⟨0, 0⟩ : S_carve_needs), 0⟩ : S_carve_rest)).needs.e0, vi ((mget eqk95 p_s m2).getD (⟨(⟨0, 0⟩ : S_carve_needs), 0⟩ : S_carve_rest)).needs.e1, vi ((mget eqk95 p_s m2).getD (⟨(⟨0, 0⟩ : S_carve_needs), 0⟩ : S_carve_rest)).next]] (by kernel_rfl) (by kernel_rfl) ?_
      exact awp_ret (main_retS [0, 1, 2, 3, 4, 5, 6, 7] (.d (.agg [(di ((mget eqk95 p_s m2).getD (⟨(⟨0, 0⟩ : S_carve_needs), 0⟩ : S_carve_rest)).needs.e0), (di ((mget eqk95 p_s m2).getD (⟨(⟨0, 0⟩ : S_carve_needs), 0⟩ : S_carve_rest)).needs.e1), (di ((mget eqk95 p_s m2).getD (⟨(⟨0, 0⟩ : S_carve_needs), 0⟩ : S_carve_rest)).next)])) (by kernel_rfl) (by kernel_rfl) (by kernel_rfl) (by kernel_rfl))

set_option maxRecDepth 100000 in
theorem ct64 {rec30 : Int → Int → S_api_Span → (List S_api_Span) → Int → (List S_api_CvPoint) → (List (S_carve_state × S_carve_rest)) → Bool → Option (S_carve_rest × (List (S_carve_state × S_carve_rest)))} (hrec30 : ∀ (at_ : Int) (deep : Int) (before : S_api_Span) (b0x0 : List S_api_Span) (b3x0 : Int) (b3x1 : List S_api_CvPoint) (m5 : List (S_carve_state × S_carve_rest)) (b7x0 : Bool) (res : S_carve_rest × (List (S_carve_state × S_carve_rest))), rec30 at_ deep before b0x0 b3x0 b3x1 m5 b7x0 = some res → HCall Try.prog 65 [vi at_, vi deep, .d (.agg [(di before.Lo), (di before.Hi)]), .ref 0 0, .ref 1 0, .ref 7 0] [.cells [.d (L56 b0x0)], .cells [.fn (.func 64) [] [.ref 2 0, .ref 3 0]], .cells [.fn (.func 68) [] [.ref 3 0, .ref 4 0, .ref 6 0]], .cells [vi b3x0, .d (L58 b3x1)], .cells [.mp 5], .map (mpo95x99 m5), .cells [.fn (.func 65) [] [.ref 0 0, .ref 1 0, .ref 7 0]], .cells [vb b7x0]] (.d (.agg [(di res.1.needs.e0), (di res.1.needs.e1), (di res.1.next)])) [.cells [.d (L56 b0x0)], .cells [.fn (.func 64) [] [.ref 2 0, .ref 3 0]], .cells [.fn (.func 68) [] [.ref 3 0, .ref 4 0, .ref 6 0]], .cells [vi b3x0, .d (L58 b3x1)], .cells [.mp 5], .map (mpo95x99 res.2), .cells [.fn (.func 65) [] [.ref 0 0, .ref 1 0, .ref 7 0]], .cells [vb b7x0]]) {p_s : S_carve_state} {deep : Int} {b1x0 : Int} {b1x1 : List S_api_CvPoint} {m3 : List (S_carve_state × S_carve_rest)} {b5x0 : List S_api_Span} {b7x0 : Bool} {res : S_carve_needs × (List (S_carve_state × S_carve_rest))} (h : F64 rec30 p_s deep b1x0 b1x1 m3 b5x0 b7x0 = some res) : HCall Try.prog 64 [.d (.agg [(di p_s.at_), (di p_s.high)]), vi deep, .ref 0 0, .ref 1 0] [.cells [.fn (.func 68) [] [.ref 1 0, .ref 2 0, .ref 4 0]], .cells [vi b1x0, .d (L58 b1x1)], .cells [.mp 3], .map (mpo95x99 m3), .cells [.fn (.func 65) [] [.ref 5 0, .ref 6 0, .ref 7 0]], .cells [.d (L56 b5x0)], .cells [.fn (.func 64) [] [.ref 0 0, .ref 1 0]], .cells [vb b7x0]] (.d (.agg [(di res.1.e0), (di res.1.e1)])) [.cells [.fn (.func 68) [] [.ref 1 0, .ref 2 0, .ref 4 0]], .cells [vi b1x0, .d (L58 b1x1)], .cells [.mp 3], .map (mpo95x99 res.2), .cells [.fn (.func 65) [] [.ref 5 0, .ref 6 0, .ref 7 0]], .cells [.d (L56 b5x0)], .cells [.fn (.func 64) [] [.ref 0 0, .ref 1 0]], .cells [vb b7x0]] := by
  refine HCall.of_awpS tt_ok (N := 42) (fl := 8) Try.func64 rfl (by kernel_rfl) rfl rfl (Nat.le_of_ble_eq_true rfl) ?_
  unfold F64 at h
  refine awp_sreg tt_ok (ks := [1, 2, 3, 4, 6]) (hs := []) [(1, vi deep), (2, .ref 0 0), (3, .ref 1 0), (4, .ref 8 0), (6, .ref 9 0)] [.cells [.fn (.func 68) [] [.ref 1 0, .ref 2 0, .ref 4 0]], .cells [vi b1x0, .d (L58 b1x1)], .cells [.mp 3], .map (mpo95x99 m3), .cells [.fn (.func 65) [] [.ref 5 0, .ref 6 0, .ref 7 0]], .cells [.d (L56 b5x0)], .cells [.fn (.func 64) [] [.ref 0 0, .ref 1 0]], .cells [vb b7x0], .cells [vi p_s.at_, vi p_s.high], .cells [vi 0, vi 0]] [] (by kernel_rfl) trivial ?_
  obtain ⟨x1, hx1, h⟩ := Option.bind_eq_some_iff.1 h
  refine awp_sreg tt_ok (ks := [1, 3, 4, 6, 7]) (hs := [.no, .no, .hcall [(1, false), (2, false), (3, false), (4, false), (5, false), (6, false), (0, false), (7, false)] (.d (.agg [(di x1.1.needs.e0), (di x1.1.needs.e1), (di x1.1.next)])) [.cells [vi b1x0, .d (L58 b1x1)], .cells [.mp 2], .map (mpo95x99 x1.2), .cells [.fn (.func 65) [] [.ref 4 0, .ref 5 0, .ref 7 0]], .cells [.d (L56 b5x0)], .cells [.fn (.func 64) [] [.ref 6 0, .ref 0 0]], .cells [.fn (.func 68) [] [.ref 0 0, .ref 1 0, .ref 3 0]], .cells [vb b7x0]]]) [(1, vi deep), (3, .ref 1 0), (4, .ref 8 0), (6, .ref 9 0), (7, .ref 10 0)] [.cells [.fn (.func 68) [] [.ref 1 0, .ref 2 0, .ref 4 0]], .cells [vi b1x0, .d (L58 b1x1)], .cells [.mp 3], .map (mpo95x99 x1.2), .cells [.fn (.func 65) [] [.ref 5 0, .ref 6 0, .ref 7 0]], .cells [.d (L56 b5x0)], .cells [.fn (.func 64) [] [.ref 0 0, .ref 1 0]], .cells [vb b7x0], .cells [vi p_s.at_, vi p_s.high], .cells [vi 0, vi 0], .cells [vi x1.1.needs.e0, vi x1.1.needs.e1]] [HCall Try.prog 68 [.d (.agg [(di p_s.at_), (di p_s.high)]), .ref 0 0, .ref 1 0, .ref 3 0] [.cells [vi b1x0, .d (L58 b1x1)], .cells [.mp 2], .map (mpo95x99 m3), .cells [.fn (.func 65) [] [.ref 4 0, .ref 5 0, .ref 7 0]], .cells [.d (L56 b5x0)], .cells [.fn (.func 64) [] [.ref 6 0, .ref 0 0]], .cells [.fn (.func 68) [] [.ref 0 0, .ref 1 0, .ref 3 0]], .cells [vb b7x0]] (.d (.agg [(di x1.1.needs.e0), (di x1.1.needs.e1), (di x1.1.next)])) [.cells [vi b1x0, .d (L58 b1x1)], .cells [.mp 2], .map (mpo95x99 x1.2), .cells [.fn (.func 65) [] [.ref 4 0, .ref 5 0, .ref 7 0]], .cells [.d (L56 b5x0)], .cells [.fn (.func 64) [] [.ref 6 0, .ref 0 0]], .cells [.fn (.func 68) [] [.ref 0 0, .ref 1 0, .ref 3 0]], .cells [vb b7x0]]] (by kernel_rfl) (ct68 hrec30 hx1) ?_
  obtain ⟨x2, hx2, h⟩ := Option.bind_eq_some_iff.1 h
  refine awp_sreg tt_ok (ks := [1, 4, 6, 7, 8]) (hs := [.no, .no, .no, .no, .cells (cel58 x2)]) [(1, vi deep), (4, .ref 8 0), (6, .ref 9 0), (7, .ref 10 0), (8, vi x2.Board)] [.cells [.fn (.func 68) [] [.ref 1 0, .ref 2 0, .ref 4 0]], .cells [vi b1x0, .d (L58 b1x1)], .cells [.mp 3], .map (mpo95x99 x1.2), .cells [.fn (.func 65) [] [.ref 5 0, .ref 6 0, .ref 7 0]], .cells [.d (L56 b5x0)], .cells [.fn (.func 64) [] [.ref 0 0, .ref 1 0]], .cells [vb b7x0], .cells [vi p_s.at_, vi p_s.high], .cells [vi 0, vi 0], .cells [vi x1.1.needs.e0, vi x1.1.needs.e1]] [IX58 b1x1 p_s.at_ x2] (by kernel_rfl) (idxOk cel58_len hx2) ?_
  refine awp_sreg tt_ok (ks := [1, 4, 6, 7, 8]) (hs := []) [(1, vi deep), (4, .ref 8 0), (6, .ref 9 0), (7, .ref 10 0), (8, vi x2.Board)] [.cells [.fn (.func 68) [] [.ref 1 0, .ref 2 0, .ref 4 0]], .cells [vi b1x0, .d (L58 b1x1)], .cells [.mp 3], .map (mpo95x99 x1.2), .cells [.fn (.func 65) [] [.ref 5 0, .ref 6 0, .ref 7 0]], .cells [.d (L56 b5x0)], .cells [.fn (.func 64) [] [.ref 0 0, .ref 1 0]], .cells [vb b7x0], .cells [vi p_s.at_, vi p_s.high], .cells [vi 0, vi 0], .cells [vi (w64 (x1.1.needs.e0 + (if (w64 (p_s.high - x2.Board)) > 0 then (w64 (p_s.high - x2.Board)) else 0))), vi x1.1.needs.e1]] [(0 ≤ (0 : Int) ∧ (0 : Int) < (2 : Int)), (0 ≤ (0 : Int) ∧ (0 : Int) < (2 : Int))] (by kernel_rfl) (And.intro ((by decide : 0 ≤ (0 : Int) ∧ (0 : Int) < (2 : Int))) ((by decide : 0 ≤ (0 : Int) ∧ (0 : Int) < (2 : Int)))) ?_
  refine awp_sreg tt_ok (ks := [6, 7]) (hs := []) [(6, .ref 9 0), (7, .ref 10 0)] [.cells [.fn (.func 68) [] [.ref 1 0, .ref 2 0, .ref 4 0]], .cells [vi b1x0, .d (L58 b1x1)], .cells [.mp 3], .map (mpo95x99 x1.2), .cells [.fn (.func 65) [] [.ref 5 0, .ref 6 0, .ref 7 0]], .cells [.d (L56 b5x0)], .cells [.fn (.func 64) [] [.ref 0 0, .ref 1 0]], .cells [vb b7x0], .cells [vi p_s.at_, vi p_s.high], .cells [vi 0, vi 0], .cells [vi (w64 (x1.1.needs.e0 + (if (w64 (p_s.high - x2.Board)) > 0 then (w64 (p_s.high - x2.Board)) else 0))), vi (w64 (x1.1.needs.e1 + (if (w64 ((if (w64 (x2.Board - p_s.high)) > 0 then (w64 (x2.Board - p_s.high)) else 0) - deep)) > 0 then (w64 ((if (w64 (x2.Board - p_s.high)) > 0 then (w64 (x2.Board - p_s.high)) else 0) - deep)) else 0)))]] [(0 ≤ (1 : Int) ∧ (1 : Int) < (2 : Int)), (0 ≤ (1 : Int) ∧ (1 : Int) < (2 : Int))] (by kernel_rfl) (And.intro ((by decide : 0 ≤ (1 : Int) ∧ (1 : Int) < (2 : Int))) ((by decide : 0 ≤ (1 : Int) ∧ (1 : Int) < (2 : Int)))) ?_
  refine awp_sreg tt_ok (ks := [6]) (hs := []) [(6, .ref 9 0)] [.cells [.fn (.func 68) [] [.ref 1 0, .ref 2 0, .ref 4 0]], .cells [vi b1x0, .d (L58 b1x1)], .cells [.mp 3], .map (mpo95x99 x1.2), .cells [.fn (.func 65) [] [.ref 5 0, .ref 6 0, .ref 7 0]], .cells [.d (L56 b5x0)], .cells [.fn (.func 64) [] [.ref 0 0, .ref 1 0]], .cells [vb b7x0], .cells [vi p_s.at_, vi p_s.high], .cells [vi (w64 (x1.1.needs.e0 + (if (w64 (p_s.high - x2.Board)) > 0 then (w64 (p_s.high - x2.Board)) else 0))), vi (w64 (x1.1.needs.e1 + (if (w64 ((if (w64 (x2.Board - p_s.high)) > 0 then (w64 (x2.Board - p_s.high)) else 0) - deep)) > 0 then (w64 ((if (w64 (x2.Board - p_s.high)) > 0 then (w64 (x2.Board - p_s.high)) else 0) - deep)) else 0)))], .cells [vi (w64 (x1.1.needs.e0 + (if (w64 (p_s.high - x2.Board)) > 0 then (w64 (p_s.high - x2.Board)) else 0))), vi (w64 (x1.1.needs.e1 + (if (w64 ((if (w64 (x2.Board - p_s.high)) > 0 then (w64 (x2.Board - p_s.high)) else 0) - deep)) > 0 then (w64 ((if (w64 (x2.Board - p_s.high)) > 0 then (w64 (x2.Board - p_s.high)) else 0) - deep)) else 0)))]] [] (by kernel_rfl) trivial ?_
  obtain rfl := Option.some.inj h
  refine awp_wk 11 [6] (by kernel_rfl) [(6, .ref 9 0)] [.cells [.fn (.func 68) [] [.ref 1 0, .ref 2 0, .ref 4 0]], .cells [vi b1x0, .d (L58 b1x1)], .cells [.mp 3], .map (mpo95x99 x1.2), .cells [.fn (.func 65) [] [.ref 5 0, .ref 6 0, .ref 7 0]], .cells [.d (L56 b5x0)], .cells [.fn (.func 64) [] [.ref 0 0, .ref 1 0]], .cells [vb b7x0], .cells [vi p_s.at_, vi p_s.high], .cells [vi (w64 (x1.1.needs.e0 + (if (w64 (p_s.high - x2.Board)) > 0 then (w64 (p_s.high - x2.Board)) else 0))), vi (w64 (x1.1.needs.e1 + (if (w64 ((if (w64 (x2.Board - p_s.high)) > 0 then (w64 (x2.Board - p_s.high)) else 0) - deep)) > 0 then (w64 ((if (w64 (x2.Board - p_s.high)) > 0 then (w64 (x2.Board - p_s.high)) else 0) - deep)) else 0)))], .cells [vi (w64 (x1.1.needs.e0 + (if (w64 (p_s.high - x2.Board)) > 0 then (w64 (p_s.high - x2.Board)) else 0))), vi (w64 (x1.1.needs.e1 + (if (w64 ((if (w64 (x2.Board - p_s.high)) > 0 then (w64 (x2.Board - p_s.high)) else 0) - deep)) > 0 then (w64 ((if (w64 (x2.Board - p_s.high)) > 0 then (w64 (x2.Board - p_s.high)) else 0) - deep)) else 0)))]] (by kernel_rfl) (by kernel_rfl) ?_
  exact awp_ret (main_retS [0, 1, 2, 3, 4, 5, 6, 7] (.d (.agg [(di (w64 (x1.1.needs.e0 + (if (w64 (p_s.high - x2.Board)) > 0 then (w64 (p_s.high - x2.Board)) else 0)))), (di (w64 (x1.1.needs.e1 + (if (w64 ((if (w64 (x2.Board - p_s.high)) > 0 then (w64 (x2.Board - p_s.high)) else 0) - deep)) > 0 then (w64 ((if (w64 (x2.Board - p_s.high)) > 0 then (w64 (x2.Board - p_s.high)) else 0) - deep)) else 0))))])) (by kernel_rfl) (by kernel_rfl) (by kernel_rfl) (by kernel_rfl))
end Go.Proofs.Ytadejgckgnbaoaa
