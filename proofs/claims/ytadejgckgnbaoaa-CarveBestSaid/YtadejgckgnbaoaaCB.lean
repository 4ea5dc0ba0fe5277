/- That functions of the seat compute this. Printed by a program of mine. -/
import Derived.Test.YtadejgckgnbaoaaS
import Derived.Test.YtadejgckgnbaoaaCA1
import Derived.Test.YtadejgckgnbaoaaCA2
import Derived.Test.YtadejgckgnbaoaaCV
import Derived.Test.YtadejgckgnbaoaaDB
namespace Go.Proofs.Ytadejgckgnbaoaa
open Go Go.Sx
set_option linter.unusedVariables false

set_option maxRecDepth 100000 in
theorem ct53  {p_a : Int} {p_b : Int} {res : Int} (h : F53 p_a p_b = some res) : PCall Try.prog 53 [(di p_a), (di p_b)] (vi res) := by
  refine PCall.of_awp tt_ok (N := 12) Try.func53 rfl (by kernel_rfl) rfl (Nat.le_of_ble_eq_true rfl) rfl ?_
  unfold F53 at h
  refine awp_sreg tt_ok (ks := [0, 1]) (hs := []) [(0, vi p_a), (1, vi p_b)] [] [] (by kernel_rfl) trivial ?_
  refine awp_sreg tt_ok (ks := [4]) (hs := []) [(4, vi (if (w64 (p_b - p_a)) > (w64 (p_a - p_b)) then (w64 (p_b - p_a)) else (w64 (p_a - p_b))))] [] [] (by kernel_rfl) trivial ?_
  obtain rfl := Option.some.inj h
  refine awp_wk 0 [4] (by kernel_rfl) [(4, vi (if (w64 (p_b - p_a)) > (w64 (p_a - p_b)) then (w64 (p_b - p_a)) else (w64 (p_a - p_b))))] [] (by kernel_rfl) (by kernel_rfl) ?_
  exact awp_ret (main_ret (by kernel_rfl))

set_option maxRecDepth 100000 in
theorem ct55  {p_r : S_api_CvRow} {steep : Int} {p_a : Int} {p_b : Int} {res : Bool} (h : F55 p_r steep p_a p_b = some res) : PCall Try.prog 55 [(.agg [(di p_r.Steep), (L58 p_r.Points)]), (di steep), (di p_a), (di p_b)] (vb res) := by
  refine PCall.of_awp tt_ok (N := 47) Try.func55 rfl (by kernel_rfl) rfl (Nat.le_of_ble_eq_true rfl) rfl ?_
  unfold F55 at h
  refine awp_sreg tt_ok (ks := [1, 2, 3, 4]) (hs := []) [(1, vi steep), (2, vi p_a), (3, vi p_b), (4, .ref 0 0)] [.cells [vi p_r.Steep, .d (L58 p_r.Points)]] [] (by kernel_rfl) trivial ?_
  obtain ⟨x1, hx1, h⟩ := Option.bind_eq_some_iff.1 h
  refine awp_sreg tt_ok (ks := [2, 3, 4, 9]) (hs := [.no, .no, .no, .call [(di p_a), (di p_b)] (vi x1)]) [(2, vi p_a), (3, vi p_b), (4, .ref 0 0), (9, vi (w64 (steep * x1)))] [.cells [vi p_r.Steep, .d (L58 p_r.Points)]] [PCall Try.prog 53 [(di p_a), (di p_b)] (vi x1)] (by kernel_rfl) (ct53 hx1) ?_
  obtain ⟨x2, hx2, h⟩ := Option.bind_eq_some_iff.1 h
  obtain ⟨x3, hx3, h⟩ := Option.bind_eq_some_iff.1 h
  obtain ⟨x4, hx4, h⟩ := Option.bind_eq_some_iff.1 h
  obtain ⟨x5, hx5, h⟩ := Option.bind_eq_some_iff.1 h
  refine awp_sdraw tt_ok mixed (ks := [8]) (hs := [.no, .no, .no, .cells (cel58 x2), .no, .no, .no, .no, .no, .cells (cel58 x3), .no, .no, .no, .no, .no, .no, .no, .no, .no, .cells (cel58 x4), .no, .no, .no, .no, .no, .cells (cel58 x5)]) 30 [8, 30, 36, 44, 45, 46] [(8, vb (cond (decide (x2.Lo > (w64 (x3.Hi + (w64 (steep * x1)))))) true (decide (x4.Lo > (w64 (x5.Hi + (w64 (steep * x1))))))))] [.cells [vi p_r.Steep, .d (L58 p_r.Points)]] [IX58 p_r.Points p_a x2, IX58 p_r.Points p_b x3, ((!(decide (x2.Lo > (w64 (x3.Hi + (w64 (steep * x1))))))) = true → (!(decide (x2.Lo > (w64 (x3.Hi + (w64 (steep * x1))))))) = true), ((!(decide (x2.Lo > (w64 (x3.Hi + (w64 (steep * x1))))))) = true → (!(decide (x2.Lo > (w64 (x3.Hi + (w64 (steep * x1))))))) = true), ((!(decide (x2.Lo > (w64 (x3.Hi + (w64 (steep * x1))))))) = true → (!(decide (x2.Lo > (w64 (x3.Hi + (w64 (steep * x1))))))) = true), ((!(decide (x2.Lo > (w64 (x3.Hi + (w64 (steep * x1))))))) = true → IX58 p_r.Points p_b x4), ((!(decide (x2.Lo > (w64 (x3.Hi + (w64 (steep * x1))))))) = true → (!(decide (x2.Lo > (w64 (x3.Hi + (w64 (steep * x1))))))) = true), ((!(decide (x2.Lo > (w64 (x3.Hi + (w64 (steep * x1))))))) = true → (!(decide (x2.Lo > (w64 (x3.Hi + (w64 (steep * x1))))))) = true), ((!(decide (x2.Lo > (w64 (x3.Hi + (w64 (steep * x1))))))) = true → (!(decide (x2.Lo > (w64 (x3.Hi + (w64 (steep * x1))))))) = true), ((!(decide (x2.Lo > (w64 (x3.Hi + (w64 (steep * x1))))))) = true → (!(decide (x2.Lo > (w64 (x3.Hi + (w64 (steep * x1))))))) = true), ((!(decide (x2.Lo > (w64 (x3.Hi + (w64 (steep * x1))))))) = true → (!(decide (x2.Lo > (w64 (x3.Hi + (w64 (steep * x1))))))) = true), ((!(decide (x2.Lo > (w64 (x3.Hi + (w64 (steep * x1))))))) = true → IX58 p_r.Points p_a x5), ((!(decide (x2.Lo > (w64 (x3.Hi + (w64 (steep * x1))))))) = true → (!(decide (x2.Lo > (w64 (x3.Hi + (w64 (steep * x1))))))) = true), ((!(decide (x2.Lo > (w64 (x3.Hi + (w64 (steep * x1))))))) = true → (!(decide (x2.Lo > (w64 (x3.Hi + (w64 (steep * x1))))))) = true), ((!(decide (x2.Lo > (w64 (x3.Hi + (w64 (steep * x1))))))) = true → (!(decide (x2.Lo > (w64 (x3.Hi + (w64 (steep * x1))))))) = true), ((!(decide (x2.Lo > (w64 (x3.Hi + (w64 (steep * x1))))))) = true → (!(decide (x2.Lo > (w64 (x3.Hi + (w64 (steep * x1))))))) = true), ((!(decide (x2.Lo > (w64 (x3.Hi + (w64 (steep * x1))))))) = true → (!(decide (x2.Lo > (w64 (x3.Hi + (w64 (steep * x1))))))) = true), ((!(decide (x2.Lo > (w64 (x3.Hi + (w64 (steep * x1))))))) = true → (!(decide (x2.Lo > (w64 (x3.Hi + (w64 (steep * x1))))))) = true), ((decide (x2.Lo > (w64 (x3.Hi + (w64 (steep * x1)))))) = false → (!(decide (x2.Lo > (w64 (x3.Hi + (w64 (steep * x1))))))) = true)] (by kernel_rfl) (And.intro (idxOk cel58_len hx2) (And.intro (idxOk cel58_len hx3) (And.intro (id) (And.intro (id) (And.intro (id) (And.intro ((fun hg => idxOk cel58_len (optG_of hx4 hg))) (And.intro (id) (And.intro (id) (And.intro (id) (And.intro (id) (And.intro (id) (And.intro ((fun hg => idxOk cel58_len (optG_of hx5 hg))) (And.intro (id) (And.intro (id) (And.intro (id) (And.intro (id) (And.intro (id) (And.intro (id) (not_of))))))))))))))))))) ?_
  obtain rfl := Option.some.inj h
  refine awp_wk 1 [8] (by kernel_rfl) [(8, vb (cond (decide (x2.Lo > (w64 (x3.Hi + (w64 (steep * x1)))))) true (decide (x4.Lo > (w64 (x5.Hi + (w64 (steep * x1))))))))] [.cells [vi p_r.Steep, .d (L58 p_r.Points)]] (by kernel_rfl) (by kernel_rfl) ?_
  exact awp_ret (main_ret (by kernel_rfl))

set_option maxRecDepth 100000 in
theorem ct52 {fuel : Nat}  {p_r : S_api_CvRow} {steep : Int} {res : Bool} (h : F52 fuel p_r steep = some res) : PCall Try.prog 52 [(.agg [(di p_r.Steep), (L58 p_r.Points)]), (di steep)] (vb res) := by
  refine PCall.of_awp tt_ok (N := 27) Try.func52 rfl (by kernel_rfl) rfl (Nat.le_of_ble_eq_true rfl) rfl ?_
  unfold F52 at h
  refine awp_sreg tt_ok (ks := [1, 2]) (hs := []) [(1, vi steep), (2, .ref 0 0)] [.cells [vi p_r.Steep, .d (L58 p_r.Points)]] [] (by kernel_rfl) trivial ?_
  refine awp_seq ?_
  refine awp_sreg tt_ok (ks := [1, 2, 5]) (hs := []) [(1, vi steep), (2, .ref 0 0), (5, vi 0)] [.cells [vi p_r.Steep, .d (L58 p_r.Points)]] [] (by kernel_rfl) trivial ?_
  obtain ⟨o1, ho1, h⟩ := Option.bind_eq_some_iff.1 h
  refine awp_cut1 (OutQ (fun (ro1 : Bool) => [(4, vb ro1)]) (fun (ro1 : Bool) => []) (fun (so1 : Unit) => []) (fun (so1 : Unit) => [.cells [vi p_r.Steep, .d (L58 p_r.Points)]]) o1) ?_ ?_
  · clear h
    have h := ho1
    clear ho1
    refine awp_selQ ?_
    refine awp_wk 1 [1, 2, 5] (by kernel_rfl) [(1, vi steep), (2, .ref 0 0), (5, vi 0)] [.cells [vi p_r.Steep, .d (L58 p_r.Points)]] (by kernel_rfl) (by kernel_rfl) ?_
    refine awp_block ?_
    refine awp_loop (n := fuel) ?_
    refine awpN_ind (fun n (c2 : Int) => F52L1 fuel p_r steep n c2) o1 (fun (c2 : Int) => [(1, vi steep), (2, .ref 0 0), (5, vi c2)]) (fun (c2 : Int) => [.cells [vi p_r.Steep, .d (L58 p_r.Points)]]) (fun _ => rfl) ?_ fuel 0 h
    clear h
    intro n3 c2 h hrn3
    change F52L1 fuel p_r steep (n3 + 1) c2 = some o1 at h
    rw [F52L1] at h
    refine awp_seq ?_
    refine awp_sreg tt_ok (ks := [1, 2, 5, 11]) (hs := []) [(1, vi steep), (2, .ref 0 0), (5, vi c2), (11, vb (decide (c2 < (p_r.Points.length : Int))))] [.cells [vi p_r.Steep, .d (L58 p_r.Points)]] [] (by kernel_rfl) trivial ?_
    refine awp_cond (b := (decide (c2 < (p_r.Points.length : Int)))) (by kernel_rfl) (fun hb4 => ?_) (fun hb4 => ?_)
    · rw [if_pos hb4] at h
      refine awp_skip ?_
      show awp _ _ _ _ _ _ _ _
      refine awp_seq ?_
      refine awp_block ?_
      refine awp_sreg tt_ok (ks := [1, 2, 5, 6]) (hs := []) [(1, vi steep), (2, .ref 0 0), (5, vi c2), (6, vi c2)] [.cells [vi p_r.Steep, .d (L58 p_r.Points)]] [] (by kernel_rfl) trivial ?_
      obtain ⟨o5, ho5, h⟩ := Option.bind_eq_some_iff.1 h
      refine awp_cut1 (OutQ (fun (ro5 : Bool) => [(4, vb ro5)]) (fun (ro5 : Bool) => []) (fun (so5 : Unit) => [(1, vi steep), (2, .ref 0 0), (5, vi c2)]) (fun (so5 : Unit) => [.cells [vi p_r.Steep, .d (L58 p_r.Points)]]) o5) ?_ ?_
      · clear h
        have h := ho5
        clear ho5
        refine awp_selQ ?_
        refine awp_wk 1 [1, 2, 5, 6] (by kernel_rfl) [(1, vi steep), (2, .ref 0 0), (5, vi c2), (6, vi c2)] [.cells [vi p_r.Steep, .d (L58 p_r.Points)]] (by kernel_rfl) (by kernel_rfl) ?_
        refine awp_block ?_
        refine awp_loop (n := fuel) ?_
        refine awpN_ind (fun n (c6 : Int) => F52L2 p_r steep c2 n c6) o5 (fun (c6 : Int) => [(1, vi steep), (2, .ref 0 0), (5, vi c2), (6, vi c6)]) (fun (c6 : Int) => [.cells [vi p_r.Steep, .d (L58 p_r.Points)]]) (fun _ => rfl) ?_ fuel c2 h
        clear h
        intro n7 c6 h hrn7
        change F52L2 p_r steep c2 (n7 + 1) c6 = some o5 at h
        rw [F52L2] at h
        refine awp_seq ?_
        refine awp_sreg tt_ok (ks := [1, 2, 5, 6, 19]) (hs := []) [(1, vi steep), (2, .ref 0 0), (5, vi c2), (6, vi c6), (19, vb (decide (c6 < (p_r.Points.length : Int))))] [.cells [vi p_r.Steep, .d (L58 p_r.Points)]] [] (by kernel_rfl) trivial ?_
        refine awp_cond (b := (decide (c6 < (p_r.Points.length : Int)))) (by kernel_rfl) (fun hb8 => ?_) (fun hb8 => ?_)
        · rw [if_pos hb8] at h
          refine awp_skip ?_
          show awp _ _ _ _ _ _ _ _
          refine awp_seq ?_
          refine awp_block ?_
          obtain ⟨x9, hx9, h⟩ := Option.bind_eq_some_iff.1 h
          refine awp_sreg tt_ok (ks := [1, 2, 5, 6, 26]) (hs := [.no, .no, .no, .no, .call [(.agg [(di p_r.Steep), (L58 p_r.Points)]), (di steep), (di c2), (di c6)] (vb x9)]) [(1, vi steep), (2, .ref 0 0), (5, vi c2), (6, vi c6), (26, vb x9)] [.cells [vi p_r.Steep, .d (L58 p_r.Points)]] [PCall Try.prog 55 [(.agg [(di p_r.Steep), (L58 p_r.Points)]), (di steep), (di c2), (di c6)] (vb x9)] (by kernel_rfl) (ct55 hx9) ?_
          refine awp_cond (b := x9) (by kernel_rfl) (fun hb10 => ?_) (fun hb10 => ?_)
          · rw [if_pos hb10] at h
            refine awp_sreg tt_ok (ks := [4]) (hs := []) [(4, vb false)] [.cells [vi p_r.Steep, .d (L58 p_r.Points)]] [] (by kernel_rfl) trivial ?_
            obtain rfl := Option.some.inj h
            refine awp_wk 1 [4] (by kernel_rfl) [(4, vb false)] [.cells [vi p_r.Steep, .d (L58 p_r.Points)]] (by kernel_rfl) (by kernel_rfl) ?_
            exact awp_ret (Sel.mk [] [4] (by kernel_rfl) (by kernel_rfl) (by kernel_rfl) OutQ.ret)
          · rw [if_neg (ntrue hb10)] at h
            refine awp_skip ?_
            show awp _ _ _ _ _ _ _ _
            refine awp_region (T' := [(1, vi steep), (2, .ref 0 0), (5, vi c2), (6, vi (w64 (c6 + 1)))]) (H' := [.cells [vi p_r.Steep, .d (L58 p_r.Points)]]) (ps := []) tt_ok (ks := [1, 2, 5, 6]) (hs := []) (by kernel_rfl) trivial ?_
            exact awpN_wk 1 [1, 2, 5, 6] (by kernel_rfl) _ _ (by kernel_rfl) (by kernel_rfl) (hrn7 (w64 (c6 + 1)) h)
        · rw [if_neg (ntrue hb8)] at h
          refine awp_exit ?_
          obtain rfl := Option.some.inj h
          exact Sel.mk [0] [1, 2, 5] (by kernel_rfl) (by kernel_rfl) (by kernel_rfl) OutQ.norm
      · intro e T H hq
        cases o5 with
        | inl ro5 =>
          obtain ⟨rfl, rfl, rfl⟩ := hq
          rw [outK_inl] at h
          obtain rfl := Option.some.inj h
          exact Sel.mk [] [4] (by kernel_rfl) (by kernel_rfl) (by kernel_rfl) OutQ.ret
        | inr so5 =>
          obtain ⟨rfl, rfl, rfl⟩ := hq
          rw [outK_inr] at h
          show awp _ _ _ _ _ _ _ _
          refine awp_region (T' := [(1, vi steep), (2, .ref 0 0), (5, vi (w64 (c2 + 1)))]) (H' := [.cells [vi p_r.Steep, .d (L58 p_r.Points)]]) (ps := []) tt_ok (ks := [1, 2, 5]) (hs := []) (by kernel_rfl) trivial ?_
          exact awpN_wk 1 [1, 2, 5] (by kernel_rfl) _ _ (by kernel_rfl) (by kernel_rfl) (hrn3 (w64 (c2 + 1)) h)
    · rw [if_neg (ntrue hb4)] at h
      refine awp_exit ?_
      obtain rfl := Option.some.inj h
      exact Sel.mk [0] [] (by kernel_rfl) (by kernel_rfl) (by kernel_rfl) OutQ.norm
  · intro e T H hq
    cases o1 with
    | inl ro1 =>
      obtain ⟨rfl, rfl, rfl⟩ := hq
      rw [outK_inl] at h
      obtain rfl := Option.some.inj h
      exact main_ret (by kernel_rfl)
    | inr so1 =>
      obtain ⟨rfl, rfl, rfl⟩ := hq
      rw [outK_inr] at h
      show awp _ _ _ _ _ _ _ _
      refine awp_sreg tt_ok (ks := [4]) (hs := []) [(4, vb true)] [.cells [vi p_r.Steep, .d (L58 p_r.Points)]] [] (by kernel_rfl) trivial ?_
      obtain rfl := Option.some.inj h
      refine awp_wk 1 [4] (by kernel_rfl) [(4, vb true)] [.cells [vi p_r.Steep, .d (L58 p_r.Points)]] (by kernel_rfl) (by kernel_rfl) ?_
      exact awp_ret (main_ret (by kernel_rfl))

set_option maxRecDepth 100000 in
theorem ct19 {fuel : Nat}  {p_r : S_api_CvRow} {res : (List S_api_Span) × Int} (h : F19 fuel p_r = some res) : PCall Try.prog 19 [(.agg [(di p_r.Steep), (L58 p_r.Points)])] (.tup [.d (L56 res.1), vi res.2]) := by
  refine PCall.of_awp tt_ok (N := 91) Try.func19 rfl (by kernel_rfl) rfl (Nat.le_of_ble_eq_true rfl) rfl ?_
  unfold F19 at h
  refine awp_sreg tt_ok (ks := [1]) (hs := []) [(1, .ref 0 0)] [.cells [vi p_r.Steep, .d (L58 p_r.Points)]] [] (by kernel_rfl) trivial ?_
  obtain ⟨x1, hx1, h⟩ := Option.bind_eq_some_iff.1 h
  refine awp_sreg tt_ok (ks := [1, 6]) (hs := [.no, .call [(.agg [(di p_r.Steep), (L58 p_r.Points)])] (.tup [vi x1.1, vi x1.2.1, vi x1.2.2])]) [(1, .ref 0 0), (6, vi x1.2.2)] [.cells [vi p_r.Steep, .d (L58 p_r.Points)]] [PCall Try.prog 17 [(.agg [(di p_r.Steep), (L58 p_r.Points)])] (.tup [vi x1.1, vi x1.2.1, vi x1.2.2])] (by kernel_rfl) (ct17 hx1) ?_
  refine awp_seq ?_
  obtain ⟨x2, hx2, h⟩ := Option.bind_eq_some_iff.1 h
  refine awp_sreg tt_ok (ks := [1, 6, 26]) (hs := [.no, .no, .no, .no, .no, .no, .call [(.agg [(di p_r.Steep), (L58 p_r.Points)]), (di p_r.Steep)] (vb x2)]) [(1, .ref 0 0), (6, vi x1.2.2), (26, vb (cond (x1.2.2 == 0) (!x2) false))] [.cells [vi p_r.Steep, .d (L58 p_r.Points)]] [((x1.2.2 == 0) = true → (x1.2.2 == 0) = true), ((x1.2.2 == 0) = true → (x1.2.2 == 0) = true), ((x1.2.2 == 0) = true → (x1.2.2 == 0) = true), ((x1.2.2 == 0) = true → PCall Try.prog 52 [(.agg [(di p_r.Steep), (L58 p_r.Points)]), (di p_r.Steep)] (vb x2)), ((x1.2.2 == 0) = true → (x1.2.2 == 0) = true), ((x1.2.2 == 0) = true → (x1.2.2 == 0) = true)] (by kernel_rfl) (And.intro (id) (And.intro (id) (And.intro (id) (And.intro ((fun hg => ct52 (optG_of hx2 hg))) (And.intro (id) (id)))))) ?_
  obtain ⟨o3, ho3, h⟩ := Option.bind_eq_some_iff.1 h
  refine awp_cut1 (OutQ (fun (ro3 : (List S_api_Span) × Int) => [(2, .d (L56 ro3.1)), (3, vi ro3.2)]) (fun (ro3 : (List S_api_Span) × Int) => []) (fun (so3 : Int) => [(1, .ref 0 0), (6, vi so3)]) (fun (so3 : Int) => [.cells [vi p_r.Steep, .d (L58 p_r.Points)]]) o3) ?_ ?_
  · clear h
    have h := ho3
    clear ho3
    refine awp_selQ ?_
    refine awp_cond (b := (cond (x1.2.2 == 0) (!x2) false)) (by kernel_rfl) (fun hb4 => ?_) (fun hb4 => ?_)
    · rw [if_pos hb4] at h
      refine awp_region (T' := [(1, .ref 0 0), (6, vi 9)]) (H' := [.cells [vi p_r.Steep, .d (L58 p_r.Points)]]) (ps := []) tt_ok (ks := [1, 6]) (hs := []) (by kernel_rfl) trivial ?_
      obtain rfl := Option.some.inj h
      exact Sel.mk [0] [1, 6] (by kernel_rfl) (by kernel_rfl) (by kernel_rfl) OutQ.norm
    · rw [if_neg (ntrue hb4)] at h
      refine awp_skip ?_
      obtain rfl := Option.some.inj h
      exact Sel.mk [0] [1, 6] (by kernel_rfl) (by kernel_rfl) (by kernel_rfl) OutQ.norm
  · intro e T H hq
    cases o3 with
    | inl ro3 =>
      obtain ⟨rfl, rfl, rfl⟩ := hq
      rw [outK_inl] at h
      obtain rfl := Option.some.inj h
      exact main_ret (by kernel_rfl)
    | inr so3 =>
      obtain ⟨rfl, rfl, rfl⟩ := hq
      rw [outK_inr] at h
      show awp _ _ _ _ _ _ _ _
      refine awp_seq ?_
      refine awp_sreg tt_ok (ks := [1, 6, 28]) (hs := []) [(1, .ref 0 0), (6, vi so3), (28, vb (so3 != 0))] [.cells [vi p_r.Steep, .d (L58 p_r.Points)]] [] (by kernel_rfl) trivial ?_
      refine awp_cond (b := (so3 != 0)) (by kernel_rfl) (fun hb5 => ?_) (fun hb5 => ?_)
      · rw [if_pos hb5] at h
        refine awp_sreg tt_ok (ks := [2, 3]) (hs := []) [(2, .d dnil), (3, vi so3)] [.cells [vi p_r.Steep, .d (L58 p_r.Points)]] [] (by kernel_rfl) trivial ?_
        obtain rfl := Option.some.inj h
        refine awp_wk 1 [2, 3] (by kernel_rfl) [(2, .d dnil), (3, vi so3)] [.cells [vi p_r.Steep, .d (L58 p_r.Points)]] (by kernel_rfl) (by kernel_rfl) ?_
        refine awp_laxT 2 _ (L56 ([] : List S_api_Span)) _ (by kernel_rfl) (.nil (e := 2)) rfl ?_
        refine awp_wk 1 [2, 3] (by kernel_rfl) [(2, .d (L56 ([] : List S_api_Span))), (3, vi so3)] [.cells [vi p_r.Steep, .d (L58 p_r.Points)]] (by kernel_rfl) (by kernel_rfl) ?_
        exact awp_ret (main_ret (by kernel_rfl))
      · rw [if_neg (ntrue hb5)] at h
        refine awp_skip ?_
        show awp _ _ _ _ _ _ _ _
        refine awp_sreg tt_ok (ks := [1, 7]) (hs := []) [(1, .ref 0 0), (7, .d dnil)] [.cells [vi p_r.Steep, .d (L58 p_r.Points)]] [] (by kernel_rfl) trivial ?_
        refine awp_seq ?_
        refine awp_sreg tt_ok (ks := [1, 7, 8]) (hs := []) [(1, .ref 0 0), (7, .d dnil), (8, vi 0)] [.cells [vi p_r.Steep, .d (L58 p_r.Points)]] [] (by kernel_rfl) trivial ?_
        refine awp_nil 7 2 (by kernel_rfl) ?_
        refine awp_eq (T' := [(7, .sl 2 1 0 ([] : List S_api_Span).length), (1, .ref 0 0), (8, vi 0)]) (H' := [.cells [vi p_r.Steep, .d (L58 p_r.Points)], .data (([] : List S_api_Span).flatMap cel56)]) (by kernel_rfl) (by kernel_rfl) ?_
        refine awp_wk 2 [1, 7, 8] (by kernel_rfl) [(1, .ref 0 0), (7, .sl 2 1 0 ([] : List S_api_Span).length), (8, vi 0)] [.cells [vi p_r.Steep, .d (L58 p_r.Points)], .data (([] : List S_api_Span).flatMap cel56)] (by kernel_rfl) (by kernel_rfl) ?_
        obtain ⟨o7, ho7, h⟩ := Option.bind_eq_some_iff.1 h
        refine awp_cut1 (OutQ (fun (ro7 : (List S_api_Span) × Int) => [(2, .d (L56 ro7.1)), (3, vi ro7.2)]) (fun (ro7 : (List S_api_Span) × Int) => []) (fun (so7 : (List S_api_Span)) => [(7, .sl 2 1 0 so7.length)]) (fun (so7 : (List S_api_Span)) => [.cells [vi p_r.Steep, .d (L58 p_r.Points)], .data (so7.flatMap cel56)]) o7) ?_ ?_
        · clear h
          have h := ho7
          clear ho7
          refine awp_selQ ?_
          refine awp_wk 2 [1, 7, 8] (by kernel_rfl) [(1, .ref 0 0), (7, .sl 2 1 0 ([] : List S_api_Span).length), (8, vi 0)] [.cells [vi p_r.Steep, .d (L58 p_r.Points)], .data (([] : List S_api_Span).flatMap cel56)] (by kernel_rfl) (by kernel_rfl) ?_
          refine awp_block ?_
          refine awp_loop (n := fuel) ?_
          refine awpN_ind (fun n (c8 : Int × (List S_api_Span)) => F19L1 fuel p_r n c8) o7 (fun (c8 : Int × (List S_api_Span)) => [(1, .ref 0 0), (7, .sl 2 1 0 c8.2.length), (8, vi c8.1)]) (fun (c8 : Int × (List S_api_Span)) => [.cells [vi p_r.Steep, .d (L58 p_r.Points)], .data (c8.2.flatMap cel56)]) (fun _ => rfl) ?_ fuel (0, ([] : List S_api_Span)) h
          clear h
          intro n9 c8 h hrn9
          change F19L1 fuel p_r (n9 + 1) c8 = some o7 at h
          rw [F19L1] at h
          refine awp_seq ?_
          refine awp_sreg tt_ok (ks := [1, 7, 8, 34]) (hs := []) [(1, .ref 0 0), (7, .sl 2 1 0 c8.2.length), (8, vi c8.1), (34, vb (decide (c8.1 < (p_r.Points.length : Int))))] [.cells [vi p_r.Steep, .d (L58 p_r.Points)], .data (c8.2.flatMap cel56)] [] (by kernel_rfl) trivial ?_
          refine awp_cond (b := (decide (c8.1 < (p_r.Points.length : Int)))) (by kernel_rfl) (fun hb10 => ?_) (fun hb10 => ?_)
          · rw [if_pos hb10] at h
            refine awp_skip ?_
            show awp _ _ _ _ _ _ _ _
            refine awp_seq ?_
            refine awp_block ?_
            refine awp_res [.cells [vi p_r.Steep, .d (L58 p_r.Points)], .data (c8.2.flatMap cel56), .data []] (by kernel_rfl) ?_
            obtain ⟨x11, hx11, h⟩ := Option.bind_eq_some_iff.1 h
            obtain ⟨x12, hx12, h⟩ := Option.bind_eq_some_iff.1 h
            refine awp_seq (awp_any (T' := [(1, .ref 0 0), (7, .sl 2 1 0 c8.2.length), (8, vi c8.1), (9, .ref 2 0)]) (H' := [.cells [vi p_r.Steep, .d (L58 p_r.Points)], .data (c8.2.flatMap cel56), .cells [vi x11.Lo, vi x12.Hi]]) (ps := [IX58 p_r.Points c8.1 x11, IX58 p_r.Points c8.1 x12]) tt_ok mixed (ks := [1, 7, 8, 9]) (hs := [.no, .no, .no, .cells (cel58 x11), .no, .no, .no, .no, .no, .cells (cel58 x12), .no, .no, .no, .res 2]) (m := 14) (mid := [1, 7, 8, 9, 49]) (by kernel_rfl) (And.intro (idxOk cel58_len hx11) (idxOk cel58_len hx12)) ?_)
            show awp _ _ _ _ _ _ _ _
            refine awp_seq ?_
            refine awp_sreg tt_ok (ks := [1, 7, 8, 9, 10]) (hs := []) [(1, .ref 0 0), (7, .sl 2 1 0 c8.2.length), (8, vi c8.1), (9, .ref 2 0), (10, vi 0)] [.cells [vi p_r.Steep, .d (L58 p_r.Points)], .data (c8.2.flatMap cel56), .cells [vi x11.Lo, vi x12.Hi]] [] (by kernel_rfl) trivial ?_
            obtain ⟨o13, ho13, h⟩ := Option.bind_eq_some_iff.1 h
            refine awp_cut1 (OutQ (fun (ro13 : (List S_api_Span) × Int) => [(2, .d (L56 ro13.1)), (3, vi ro13.2)]) (fun (ro13 : (List S_api_Span) × Int) => []) (fun (so13 : Int × Int) => [(1, .ref 0 0), (7, .sl 2 1 0 c8.2.length), (8, vi c8.1), (9, .ref 2 0)]) (fun (so13 : Int × Int) => [.cells [vi p_r.Steep, .d (L58 p_r.Points)], .data (c8.2.flatMap cel56), .cells [vi so13.1, vi so13.2]]) o13) ?_ ?_
            · clear h
              have h := ho13
              clear ho13
              refine awp_selQ ?_
              refine awp_wk 3 [1, 7, 8, 9, 10] (by kernel_rfl) [(1, .ref 0 0), (7, .sl 2 1 0 c8.2.length), (8, vi c8.1), (9, .ref 2 0), (10, vi 0)] [.cells [vi p_r.Steep, .d (L58 p_r.Points)], .data (c8.2.flatMap cel56), .cells [vi x11.Lo, vi x12.Hi]] (by kernel_rfl) (by kernel_rfl) ?_
              refine awp_block ?_
              refine awp_loop (n := fuel) ?_
              refine awpN_ind (fun n (c14 : Int × Int × Int) => F19L2 p_r c8 n c14) o13 (fun (c14 : Int × Int × Int) => [(1, .ref 0 0), (7, .sl 2 1 0 c8.2.length), (8, vi c8.1), (9, .ref 2 0), (10, vi c14.1)]) (fun (c14 : Int × Int × Int) => [.cells [vi p_r.Steep, .d (L58 p_r.Points)], .data (c8.2.flatMap cel56), .cells [vi c14.2.1, vi c14.2.2]]) (fun _ => rfl) ?_ fuel (0, x11.Lo, x12.Hi) h
              clear h
              intro n15 c14 h hrn15
              change F19L2 p_r c8 (n15 + 1) c14 = some o13 at h
              rw [F19L2] at h
              refine awp_seq ?_
              refine awp_sreg tt_ok (ks := [1, 7, 8, 9, 10, 54]) (hs := []) [(1, .ref 0 0), (7, .sl 2 1 0 c8.2.length), (8, vi c8.1), (9, .ref 2 0), (10, vi c14.1), (54, vb (decide (c14.1 < (p_r.Points.length : Int))))] [.cells [vi p_r.Steep, .d (L58 p_r.Points)], .data (c8.2.flatMap cel56), .cells [vi c14.2.1, vi c14.2.2]] [] (by kernel_rfl) trivial ?_
              refine awp_cond (b := (decide (c14.1 < (p_r.Points.length : Int)))) (by kernel_rfl) (fun hb16 => ?_) (fun hb16 => ?_)
              · rw [if_pos hb16] at h
                refine awp_skip ?_
                show awp _ _ _ _ _ _ _ _
                refine awp_seq ?_
                refine awp_block ?_
                obtain ⟨x17, hx17, h⟩ := Option.bind_eq_some_iff.1 h
                refine awp_sdraw tt_ok mixed (ks := [1, 7, 8, 9, 10, 11]) (hs := [.no, .no, .no, .no, .call [(di c8.1), (di c14.1)] (vi x17)]) 5 [1, 7, 8, 9, 10, 11, 58, 61, 62] [(1, .ref 0 0), (7, .sl 2 1 0 c8.2.length), (8, vi c8.1), (9, .ref 2 0), (10, vi c14.1), (11, vi (w64 (p_r.Steep * x17)))] [.cells [vi p_r.Steep, .d (L58 p_r.Points)], .data (c8.2.flatMap cel56), .cells [vi c14.2.1, vi c14.2.2]] [PCall Try.prog 53 [(di c8.1), (di c14.1)] (vi x17)] (by kernel_rfl) (ct53 hx17) ?_
                obtain ⟨x18, hx18, h⟩ := Option.bind_eq_some_iff.1 h
                obtain ⟨x19, hx19, h⟩ := Option.bind_eq_some_iff.1 h
                refine awp_draw (T' := [(1, .ref 0 0), (7, .sl 2 1 0 c8.2.length), (8, vi c8.1), (9, .ref 2 0), (10, vi c14.1)]) (H' := [.cells [vi p_r.Steep, .d (L58 p_r.Points)], .data (c8.2.flatMap cel56), .cells [vi (if (w64 (x18.Lo - (w64 (p_r.Steep * x17)))) > c14.2.1 then (w64 (x18.Lo - (w64 (p_r.Steep * x17)))) else c14.2.1), vi (if (w64 (x19.Hi + (w64 (p_r.Steep * x17)))) < c14.2.2 then (w64 (x19.Hi + (w64 (p_r.Steep * x17)))) else c14.2.2)]]) (ps := [IX58 p_r.Points c14.1 x18, IX58 p_r.Points c14.1 x19]) tt_ok mixed (ks := [1, 7, 8, 9, 10]) (hs := [.no, .no, .no, .no, .no, .cells (cel58 x18), .no, .no, .no, .no, .no, .no, .no, .no, .no, .no, .cells (cel58 x19)]) (m := 22) (mid := [1, 7, 8, 9, 10, 73, 84, 85]) (by kernel_rfl) (And.intro (idxOk cel58_len hx18) (idxOk cel58_len hx19)) ?_
                show awp _ _ _ _ _ _ _ _
                refine awp_region (T' := [(1, .ref 0 0), (7, .sl 2 1 0 c8.2.length), (8, vi c8.1), (9, .ref 2 0), (10, vi (w64 (c14.1 + 1)))]) (H' := [.cells [vi p_r.Steep, .d (L58 p_r.Points)], .data (c8.2.flatMap cel56), .cells [vi (if (w64 (x18.Lo - (w64 (p_r.Steep * x17)))) > c14.2.1 then (w64 (x18.Lo - (w64 (p_r.Steep * x17)))) else c14.2.1), vi (if (w64 (x19.Hi + (w64 (p_r.Steep * x17)))) < c14.2.2 then (w64 (x19.Hi + (w64 (p_r.Steep * x17)))) else c14.2.2)]]) (ps := []) tt_ok (ks := [1, 7, 8, 9, 10]) (hs := []) (by kernel_rfl) trivial ?_
                exact awpN_wk 3 [1, 7, 8, 9, 10] (by kernel_rfl) _ _ (by kernel_rfl) (by kernel_rfl) (hrn15 ((w64 (c14.1 + 1)), (if (w64 (x18.Lo - (w64 (p_r.Steep * x17)))) > c14.2.1 then (w64 (x18.Lo - (w64 (p_r.Steep * x17)))) else c14.2.1), (if (w64 (x19.Hi + (w64 (p_r.Steep * x17)))) < c14.2.2 then (w64 (x19.Hi + (w64 (p_r.Steep * x17)))) else c14.2.2)) h)
              · rw [if_neg (ntrue hb16)] at h
                refine awp_exit ?_
                obtain rfl := Option.some.inj h
                exact Sel.mk [0, 1, 2] [1, 7, 8, 9] (by kernel_rfl) (by kernel_rfl) (by kernel_rfl) OutQ.norm
            · intro e T H hq
              cases o13 with
              | inl ro13 =>
                obtain ⟨rfl, rfl, rfl⟩ := hq
                rw [outK_inl] at h
                obtain rfl := Option.some.inj h
                exact Sel.mk [] [2, 3] (by kernel_rfl) (by kernel_rfl) (by kernel_rfl) OutQ.ret
              | inr so13 =>
                obtain ⟨rfl, rfl, rfl⟩ := hq
                rw [outK_inr] at h
                show awp _ _ _ _ _ _ _ _
                obtain ⟨x20, hx20, h⟩ := Option.bind_eq_some_iff.1 h
                refine awp_region (T' := [(1, .ref 0 0), (7, .sl 2 1 0 (c8.2 ++ ([(⟨so13.1, so13.2⟩ : S_api_Span)] : List S_api_Span)).length), (8, vi c8.1)]) (H' := [.cells [vi p_r.Steep, .d (L58 p_r.Points)], .data ((c8.2 ++ ([(⟨so13.1, so13.2⟩ : S_api_Span)] : List S_api_Span)).flatMap cel56), .cells [vi so13.1, vi so13.2]]) (ps := [AppendOk ((c8.2.flatMap cel56).map .d) c8.2.length ([(⟨so13.1, so13.2⟩ : S_api_Span)] : List S_api_Span).length (c8.2 ++ ([(⟨so13.1, so13.2⟩ : S_api_Span)] : List S_api_Span)).length 2 16 (([(⟨so13.1, so13.2⟩ : S_api_Span)] : List S_api_Span).flatMap cel56) ((c8.2 ++ ([(⟨so13.1, so13.2⟩ : S_api_Span)] : List S_api_Span)).flatMap cel56)]) tt_ok (ks := [1, 7, 8]) (hs := [.no, .no, .no, .list (c8.2 ++ ([(⟨so13.1, so13.2⟩ : S_api_Span)] : List S_api_Span)).length ((c8.2 ++ ([(⟨so13.1, so13.2⟩ : S_api_Span)] : List S_api_Span)).flatMap cel56)]) (by kernel_rfl) (appendOk cel56_len (need_of hx20)) ?_
                show awp _ _ _ _ _ _ _ _
                refine awp_region (T' := [(1, .ref 0 0), (7, .sl 2 1 0 (c8.2 ++ ([(⟨so13.1, so13.2⟩ : S_api_Span)] : List S_api_Span)).length), (8, vi (w64 (c8.1 + 1)))]) (H' := [.cells [vi p_r.Steep, .d (L58 p_r.Points)], .data ((c8.2 ++ ([(⟨so13.1, so13.2⟩ : S_api_Span)] : List S_api_Span)).flatMap cel56), .cells [vi so13.1, vi so13.2]]) (ps := []) tt_ok (ks := [1, 7, 8]) (hs := []) (by kernel_rfl) trivial ?_
                exact awpN_wk 2 [1, 7, 8] (by kernel_rfl) _ _ (by kernel_rfl) (by kernel_rfl) (hrn9 ((w64 (c8.1 + 1)), (c8.2 ++ ([(⟨so13.1, so13.2⟩ : S_api_Span)] : List S_api_Span))) h)
          · rw [if_neg (ntrue hb10)] at h
            refine awp_exit ?_
            obtain rfl := Option.some.inj h
            exact Sel.mk [0, 1] [7] (by kernel_rfl) (by kernel_rfl) (by kernel_rfl) OutQ.norm
        · intro e T H hq
          cases o7 with
          | inl ro7 =>
            obtain ⟨rfl, rfl, rfl⟩ := hq
            rw [outK_inl] at h
            obtain rfl := Option.some.inj h
            exact main_ret (by kernel_rfl)
          | inr so7 =>
            obtain ⟨rfl, rfl, rfl⟩ := hq
            rw [outK_inr] at h
            show awp _ _ _ _ _ _ _ _
            refine awp_sreg tt_ok (ks := [2, 3]) (hs := []) [(2, .sl 2 1 0 so7.length), (3, vi 0)] [.cells [vi p_r.Steep, .d (L58 p_r.Points)], .data (so7.flatMap cel56)] [] (by kernel_rfl) trivial ?_
            obtain rfl := Option.some.inj h
            refine awp_wk 2 [2, 3] (by kernel_rfl) [(2, .sl 2 1 0 so7.length), (3, vi 0)] [.cells [vi p_r.Steep, .d (L58 p_r.Points)], .data (so7.flatMap cel56)] (by kernel_rfl) (by kernel_rfl) ?_
            refine awp_freeze 2 1 (so7.flatMap cel56) (.sl 2 1 0 so7.length) (.d (L56 so7)) _ _ (ps := [(so7.flatMap cel56).length = so7.length * 2]) (by kernel_rfl) (by kernel_rfl) (by kernel_rfl) (flatMap_len cel56 2 cel56_len so7) rfl rfl ?_
            refine awp_wk 2 [2, 3] (by kernel_rfl) [(2, .d (L56 so7)), (3, vi 0)] [.cells [vi p_r.Steep, .d (L58 p_r.Points)], .data (([] : List S_api_Span).flatMap cel56)] (by kernel_rfl) (by kernel_rfl) ?_
            exact awp_ret (main_ret (by kernel_rfl))

set_option maxRecDepth 100000 in
theorem ct22 {fuel : Nat}  {p_r : S_api_CvRow} {res : Int × Int × Int} (h : F22 fuel p_r = some res) : PCall Try.prog 22 [(.agg [(di p_r.Steep), (L58 p_r.Points)])] (.tup [vi res.1, vi res.2.1, vi res.2.2]) := by
  refine PCall.of_awp tt_ok (N := 39) Try.func22 rfl (by kernel_rfl) rfl (Nat.le_of_ble_eq_true rfl) rfl ?_
  unfold F22 at h
  refine awp_sreg tt_ok (ks := [1]) (hs := []) [(1, .ref 0 0)] [.cells [vi p_r.Steep, .d (L58 p_r.Points)]] [] (by kernel_rfl) trivial ?_
  obtain ⟨x1, hx1, h⟩ := Option.bind_eq_some_iff.1 h
  refine awp_sreg tt_ok (ks := [1, 7]) (hs := [.no, .call [(.agg [(di p_r.Steep), (L58 p_r.Points)])] (.tup [vi x1.1, vi x1.2.1, vi x1.2.2])]) [(1, .ref 0 0), (7, vi x1.2.2)] [.cells [vi p_r.Steep, .d (L58 p_r.Points)]] [PCall Try.prog 17 [(.agg [(di p_r.Steep), (L58 p_r.Points)])] (.tup [vi x1.1, vi x1.2.1, vi x1.2.2])] (by kernel_rfl) (ct17 hx1) ?_
  refine awp_seq ?_
  refine awp_sreg tt_ok (ks := [1, 7, 17]) (hs := []) [(1, .ref 0 0), (7, vi x1.2.2), (17, vb (x1.2.2 != 0))] [.cells [vi p_r.Steep, .d (L58 p_r.Points)]] [] (by kernel_rfl) trivial ?_
  refine awp_cond (b := (x1.2.2 != 0)) (by kernel_rfl) (fun hb2 => ?_) (fun hb2 => ?_)
  · rw [if_pos hb2] at h
    refine awp_sreg tt_ok (ks := [2, 3, 4]) (hs := []) [(2, vi 0), (3, vi 0), (4, vi x1.2.2)] [.cells [vi p_r.Steep, .d (L58 p_r.Points)]] [] (by kernel_rfl) trivial ?_
    obtain rfl := Option.some.inj h
    refine awp_wk 1 [2, 3, 4] (by kernel_rfl) [(2, vi 0), (3, vi 0), (4, vi x1.2.2)] [.cells [vi p_r.Steep, .d (L58 p_r.Points)]] (by kernel_rfl) (by kernel_rfl) ?_
    exact awp_ret (main_ret (by kernel_rfl))
  · rw [if_neg (ntrue hb2)] at h
    refine awp_skip ?_
    show awp _ _ _ _ _ _ _ _
    refine awp_seq ?_
    refine awp_sreg tt_ok (ks := [1, 8]) (hs := []) [(1, .ref 0 0), (8, vi 0)] [.cells [vi p_r.Steep, .d (L58 p_r.Points)]] [] (by kernel_rfl) trivial ?_
    obtain ⟨o3, ho3, h⟩ := Option.bind_eq_some_iff.1 h
    refine awp_cut1 (OutQ (fun (ro3 : Int × Int × Int) => [(2, vi ro3.1), (3, vi ro3.2.1), (4, vi ro3.2.2)]) (fun (ro3 : Int × Int × Int) => []) (fun (so3 : Unit) => []) (fun (so3 : Unit) => [.cells [vi p_r.Steep, .d (L58 p_r.Points)]]) o3) ?_ ?_
    · clear h
      have h := ho3
      clear ho3
      refine awp_selQ ?_
      refine awp_wk 1 [1, 8] (by kernel_rfl) [(1, .ref 0 0), (8, vi 0)] [.cells [vi p_r.Steep, .d (L58 p_r.Points)]] (by kernel_rfl) (by kernel_rfl) ?_
      refine awp_block ?_
      refine awp_loop (n := fuel) ?_
      refine awpN_ind (fun n (c4 : Int) => F22L1 fuel p_r n c4) o3 (fun (c4 : Int) => [(1, .ref 0 0), (8, vi c4)]) (fun (c4 : Int) => [.cells [vi p_r.Steep, .d (L58 p_r.Points)]]) (fun _ => rfl) ?_ fuel 0 h
      clear h
      intro n5 c4 h hrn5
      change F22L1 fuel p_r (n5 + 1) c4 = some o3 at h
      rw [F22L1] at h
      refine awp_seq ?_
      refine awp_sreg tt_ok (ks := [1, 8, 23]) (hs := []) [(1, .ref 0 0), (8, vi c4), (23, vb (decide (c4 < (p_r.Points.length : Int))))] [.cells [vi p_r.Steep, .d (L58 p_r.Points)]] [] (by kernel_rfl) trivial ?_
      refine awp_cond (b := (decide (c4 < (p_r.Points.length : Int)))) (by kernel_rfl) (fun hb6 => ?_) (fun hb6 => ?_)
      · rw [if_pos hb6] at h
        refine awp_skip ?_
        show awp _ _ _ _ _ _ _ _
        refine awp_seq ?_
        refine awp_block ?_
        refine awp_sreg tt_ok (ks := [1, 8, 9]) (hs := []) [(1, .ref 0 0), (8, vi c4), (9, vi c4)] [.cells [vi p_r.Steep, .d (L58 p_r.Points)]] [] (by kernel_rfl) trivial ?_
        obtain ⟨o7, ho7, h⟩ := Option.bind_eq_some_iff.1 h
        refine awp_cut1 (OutQ (fun (ro7 : Int × Int × Int) => [(2, vi ro7.1), (3, vi ro7.2.1), (4, vi ro7.2.2)]) (fun (ro7 : Int × Int × Int) => []) (fun (so7 : Unit) => [(1, .ref 0 0), (8, vi c4)]) (fun (so7 : Unit) => [.cells [vi p_r.Steep, .d (L58 p_r.Points)]]) o7) ?_ ?_
        · clear h
          have h := ho7
          clear ho7
          refine awp_selQ ?_
          refine awp_wk 1 [1, 8, 9] (by kernel_rfl) [(1, .ref 0 0), (8, vi c4), (9, vi c4)] [.cells [vi p_r.Steep, .d (L58 p_r.Points)]] (by kernel_rfl) (by kernel_rfl) ?_
          refine awp_block ?_
          refine awp_loop (n := fuel) ?_
          refine awpN_ind (fun n (c8 : Int) => F22L2 p_r c4 n c8) o7 (fun (c8 : Int) => [(1, .ref 0 0), (8, vi c4), (9, vi c8)]) (fun (c8 : Int) => [.cells [vi p_r.Steep, .d (L58 p_r.Points)]]) (fun _ => rfl) ?_ fuel c4 h
          clear h
          intro n9 c8 h hrn9
          change F22L2 p_r c4 (n9 + 1) c8 = some o7 at h
          rw [F22L2] at h
          refine awp_seq ?_
          refine awp_sreg tt_ok (ks := [1, 8, 9, 28]) (hs := []) [(1, .ref 0 0), (8, vi c4), (9, vi c8), (28, vb (decide (c8 ≥ 0)))] [.cells [vi p_r.Steep, .d (L58 p_r.Points)]] [] (by kernel_rfl) trivial ?_
          refine awp_cond (b := (decide (c8 ≥ 0))) (by kernel_rfl) (fun hb10 => ?_) (fun hb10 => ?_)
          · rw [if_pos hb10] at h
            refine awp_skip ?_
            show awp _ _ _ _ _ _ _ _
            refine awp_seq ?_
            refine awp_block ?_
            obtain ⟨x11, hx11, h⟩ := Option.bind_eq_some_iff.1 h
            refine awp_sreg tt_ok (ks := [1, 8, 9, 36]) (hs := [.no, .no, .no, .no, .no, .call [(.agg [(di p_r.Steep), (L58 p_r.Points)]), (di p_r.Steep), (di c8), (di c4)] (vb x11)]) [(1, .ref 0 0), (8, vi c4), (9, vi c8), (36, vb x11)] [.cells [vi p_r.Steep, .d (L58 p_r.Points)]] [PCall Try.prog 55 [(.agg [(di p_r.Steep), (L58 p_r.Points)]), (di p_r.Steep), (di c8), (di c4)] (vb x11)] (by kernel_rfl) (ct55 hx11) ?_
            refine awp_cond (b := x11) (by kernel_rfl) (fun hb12 => ?_) (fun hb12 => ?_)
            · rw [if_pos hb12] at h
              refine awp_sreg tt_ok (ks := [2, 3, 4]) (hs := []) [(2, vi c8), (3, vi c4), (4, vi 0)] [.cells [vi p_r.Steep, .d (L58 p_r.Points)]] [] (by kernel_rfl) trivial ?_
              obtain rfl := Option.some.inj h
              refine awp_wk 1 [2, 3, 4] (by kernel_rfl) [(2, vi c8), (3, vi c4), (4, vi 0)] [.cells [vi p_r.Steep, .d (L58 p_r.Points)]] (by kernel_rfl) (by kernel_rfl) ?_
              exact awp_ret (Sel.mk [] [2, 3, 4] (by kernel_rfl) (by kernel_rfl) (by kernel_rfl) OutQ.ret)
            · rw [if_neg (ntrue hb12)] at h
              refine awp_skip ?_
              show awp _ _ _ _ _ _ _ _
              refine awp_region (T' := [(1, .ref 0 0), (8, vi c4), (9, vi (w64 (c8 - 1)))]) (H' := [.cells [vi p_r.Steep, .d (L58 p_r.Points)]]) (ps := []) tt_ok (ks := [1, 8, 9]) (hs := []) (by kernel_rfl) trivial ?_
              exact awpN_wk 1 [1, 8, 9] (by kernel_rfl) _ _ (by kernel_rfl) (by kernel_rfl) (hrn9 (w64 (c8 - 1)) h)
          · rw [if_neg (ntrue hb10)] at h
            refine awp_exit ?_
            obtain rfl := Option.some.inj h
            exact Sel.mk [0] [1, 8] (by kernel_rfl) (by kernel_rfl) (by kernel_rfl) OutQ.norm
        · intro e T H hq
          cases o7 with
          | inl ro7 =>
            obtain ⟨rfl, rfl, rfl⟩ := hq
            rw [outK_inl] at h
            obtain rfl := Option.some.inj h
            exact Sel.mk [] [2, 3, 4] (by kernel_rfl) (by kernel_rfl) (by kernel_rfl) OutQ.ret
          | inr so7 =>
            obtain ⟨rfl, rfl, rfl⟩ := hq
            rw [outK_inr] at h
            show awp _ _ _ _ _ _ _ _
            refine awp_region (T' := [(1, .ref 0 0), (8, vi (w64 (c4 + 1)))]) (H' := [.cells [vi p_r.Steep, .d (L58 p_r.Points)]]) (ps := []) tt_ok (ks := [1, 8]) (hs := []) (by kernel_rfl) trivial ?_
            exact awpN_wk 1 [1, 8] (by kernel_rfl) _ _ (by kernel_rfl) (by kernel_rfl) (hrn5 (w64 (c4 + 1)) h)
      · rw [if_neg (ntrue hb6)] at h
        refine awp_exit ?_
        obtain rfl := Option.some.inj h
        exact Sel.mk [0] [] (by kernel_rfl) (by kernel_rfl) (by kernel_rfl) OutQ.norm
    · intro e T H hq
      cases o3 with
      | inl ro3 =>
        obtain ⟨rfl, rfl, rfl⟩ := hq
        rw [outK_inl] at h
        obtain rfl := Option.some.inj h
        exact main_ret (by kernel_rfl)
      | inr so3 =>
        obtain ⟨rfl, rfl, rfl⟩ := hq
        rw [outK_inr] at h
        show awp _ _ _ _ _ _ _ _
        refine awp_sreg tt_ok (ks := [2, 3, 4]) (hs := []) [(2, vi 0), (3, vi 0), (4, vi 4)] [.cells [vi p_r.Steep, .d (L58 p_r.Points)]] [] (by kernel_rfl) trivial ?_
        obtain rfl := Option.some.inj h
        refine awp_wk 1 [2, 3, 4] (by kernel_rfl) [(2, vi 0), (3, vi 0), (4, vi 4)] [.cells [vi p_r.Steep, .d (L58 p_r.Points)]] (by kernel_rfl) (by kernel_rfl) ?_
        exact awp_ret (main_ret (by kernel_rfl))

set_option maxRecDepth 100000 in
theorem ct24 {fuel : Nat}  {p_r : S_api_CvRow} {res : Int × Int} (h : F24 fuel p_r = some res) : PCall Try.prog 24 [(.agg [(di p_r.Steep), (L58 p_r.Points)])] (.tup [vi res.1, vi res.2]) := by
  refine PCall.of_awp tt_ok (N := 33) Try.func24 rfl (by kernel_rfl) rfl (Nat.le_of_ble_eq_true rfl) rfl ?_
  unfold F24 at h
  refine awp_sreg tt_ok (ks := [1]) (hs := []) [(1, .ref 0 0)] [.cells [vi p_r.Steep, .d (L58 p_r.Points)]] [] (by kernel_rfl) trivial ?_
  obtain ⟨x1, hx1, h⟩ := Option.bind_eq_some_iff.1 h
  refine awp_sreg tt_ok (ks := [1, 6]) (hs := [.no, .call [(.agg [(di p_r.Steep), (L58 p_r.Points)])] (.tup [vi x1.1, vi x1.2.1, vi x1.2.2])]) [(1, .ref 0 0), (6, vi x1.2.2)] [.cells [vi p_r.Steep, .d (L58 p_r.Points)]] [PCall Try.prog 17 [(.agg [(di p_r.Steep), (L58 p_r.Points)])] (.tup [vi x1.1, vi x1.2.1, vi x1.2.2])] (by kernel_rfl) (ct17 hx1) ?_
  refine awp_seq ?_
  refine awp_sreg tt_ok (ks := [1, 6, 17]) (hs := []) [(1, .ref 0 0), (6, vi x1.2.2), (17, vb (x1.2.2 != 0))] [.cells [vi p_r.Steep, .d (L58 p_r.Points)]] [] (by kernel_rfl) trivial ?_
  refine awp_cond (b := (x1.2.2 != 0)) (by kernel_rfl) (fun hb2 => ?_) (fun hb2 => ?_)
  · rw [if_pos hb2] at h
    refine awp_sreg tt_ok (ks := [2, 3]) (hs := []) [(2, vi 0), (3, vi x1.2.2)] [.cells [vi p_r.Steep, .d (L58 p_r.Points)]] [] (by kernel_rfl) trivial ?_
    obtain rfl := Option.some.inj h
    refine awp_wk 1 [2, 3] (by kernel_rfl) [(2, vi 0), (3, vi x1.2.2)] [.cells [vi p_r.Steep, .d (L58 p_r.Points)]] (by kernel_rfl) (by kernel_rfl) ?_
    exact awp_ret (main_ret (by kernel_rfl))
  · rw [if_neg (ntrue hb2)] at h
    refine awp_skip ?_
    show awp _ _ _ _ _ _ _ _
    refine awp_sreg tt_ok (ks := [1, 7, 8]) (hs := []) [(1, .ref 0 0), (7, vi 0), (8, vi 9000)] [.cells [vi p_r.Steep, .d (L58 p_r.Points)]] [] (by kernel_rfl) trivial ?_
    refine awp_seq ?_
    obtain ⟨o3, ho3, h⟩ := Option.bind_eq_some_iff.1 h
    refine awp_cut1 (OutQ (fun (ro3 : Int × Int) => [(2, vi ro3.1), (3, vi ro3.2)]) (fun (ro3 : Int × Int) => []) (fun (so3 : Int) => [(7, vi so3)]) (fun (so3 : Int) => [.cells [vi p_r.Steep, .d (L58 p_r.Points)]]) o3) ?_ ?_
    · clear h
      have h := ho3
      clear ho3
      refine awp_selQ ?_
      refine awp_wk 1 [1, 7, 8] (by kernel_rfl) [(1, .ref 0 0), (7, vi 0), (8, vi 9000)] [.cells [vi p_r.Steep, .d (L58 p_r.Points)]] (by kernel_rfl) (by kernel_rfl) ?_
      refine awp_block ?_
      refine awp_loop (n := fuel) ?_
      refine awpN_ind (fun n (c4 : Int × Int) => F24L1 fuel p_r n c4) o3 (fun (c4 : Int × Int) => [(1, .ref 0 0), (7, vi c4.1), (8, vi c4.2)]) (fun (c4 : Int × Int) => [.cells [vi p_r.Steep, .d (L58 p_r.Points)]]) (fun _ => rfl) ?_ fuel (0, 9000) h
      clear h
      intro n5 c4 h hrn5
      change F24L1 fuel p_r (n5 + 1) c4 = some o3 at h
      rw [F24L1] at h
      refine awp_seq ?_
      refine awp_sreg tt_ok (ks := [1, 7, 8, 21]) (hs := []) [(1, .ref 0 0), (7, vi c4.1), (8, vi c4.2), (21, vb (decide (c4.1 < c4.2)))] [.cells [vi p_r.Steep, .d (L58 p_r.Points)]] [] (by kernel_rfl) trivial ?_
      refine awp_cond (b := (decide (c4.1 < c4.2))) (by kernel_rfl) (fun hb6 => ?_) (fun hb6 => ?_)
      · rw [if_pos hb6] at h
        refine awp_skip ?_
        show awp _ _ _ _ _ _ _ _
        refine awp_block ?_
        refine awp_sreg tt_ok (ks := [1, 7, 8, 9]) (hs := []) [(1, .ref 0 0), (7, vi c4.1), (8, vi c4.2), (9, vi (w64 ((w64 (c4.1 + c4.2)).tdiv 2)))] [.cells [vi p_r.Steep, .d (L58 p_r.Points)]] [((2 : Int) ≠ 0)] (by kernel_rfl) ((by decide : (2 : Int) ≠ 0)) ?_
        obtain ⟨x7, hx7, h⟩ := Option.bind_eq_some_iff.1 h
        refine awp_sreg tt_ok (ks := [1, 7, 8, 9, 28]) (hs := [.no, .no, .call [(.agg [(di p_r.Steep), (L58 p_r.Points)]), (di (w64 ((w64 (c4.1 + c4.2)).tdiv 2)))] (vb x7)]) [(1, .ref 0 0), (7, vi c4.1), (8, vi c4.2), (9, vi (w64 ((w64 (c4.1 + c4.2)).tdiv 2))), (28, vb x7)] [.cells [vi p_r.Steep, .d (L58 p_r.Points)]] [PCall Try.prog 52 [(.agg [(di p_r.Steep), (L58 p_r.Points)]), (di (w64 ((w64 (c4.1 + c4.2)).tdiv 2)))] (vb x7)] (by kernel_rfl) (ct52 hx7) ?_
        refine awp_cond (b := x7) (by kernel_rfl) (fun hb8 => ?_) (fun hb8 => ?_)
        · rw [if_pos hb8] at h
          refine awp_region (T' := [(1, .ref 0 0), (7, vi c4.1), (8, vi (w64 ((w64 (c4.1 + c4.2)).tdiv 2)))]) (H' := [.cells [vi p_r.Steep, .d (L58 p_r.Points)]]) (ps := []) tt_ok (ks := [1, 7, 8]) (hs := []) (by kernel_rfl) trivial ?_
          exact awpN_wk 1 [1, 7, 8] (by kernel_rfl) _ _ (by kernel_rfl) (by kernel_rfl) (hrn5 (c4.1, (w64 ((w64 (c4.1 + c4.2)).tdiv 2))) h)
        · rw [if_neg (ntrue hb8)] at h
          refine awp_region (T' := [(1, .ref 0 0), (7, vi (w64 ((w64 ((w64 (c4.1 + c4.2)).tdiv 2)) + 1))), (8, vi c4.2)]) (H' := [.cells [vi p_r.Steep, .d (L58 p_r.Points)]]) (ps := []) tt_ok (ks := [1, 7, 8]) (hs := []) (by kernel_rfl) trivial ?_
          exact awpN_wk 1 [1, 7, 8] (by kernel_rfl) _ _ (by kernel_rfl) (by kernel_rfl) (hrn5 ((w64 ((w64 ((w64 (c4.1 + c4.2)).tdiv 2)) + 1)), c4.2) h)
      · rw [if_neg (ntrue hb6)] at h
        refine awp_exit ?_
        obtain rfl := Option.some.inj h
        exact Sel.mk [0] [7] (by kernel_rfl) (by kernel_rfl) (by kernel_rfl) OutQ.norm
    · intro e T H hq
      cases o3 with
      | inl ro3 =>
        obtain ⟨rfl, rfl, rfl⟩ := hq
        rw [outK_inl] at h
        obtain rfl := Option.some.inj h
        exact main_ret (by kernel_rfl)
      | inr so3 =>
        obtain ⟨rfl, rfl, rfl⟩ := hq
        rw [outK_inr] at h
        show awp _ _ _ _ _ _ _ _
        refine awp_sreg tt_ok (ks := [2, 3]) (hs := []) [(2, vi so3), (3, vi 0)] [.cells [vi p_r.Steep, .d (L58 p_r.Points)]] [] (by kernel_rfl) trivial ?_
        obtain rfl := Option.some.inj h
        refine awp_wk 1 [2, 3] (by kernel_rfl) [(2, vi so3), (3, vi 0)] [.cells [vi p_r.Steep, .d (L58 p_r.Points)]] (by kernel_rfl) (by kernel_rfl) ?_
        exact awp_ret (main_ret (by kernel_rfl))

set_option maxRecDepth 100000 in
theorem ct3 {fuel : Nat}  {p_r : S_api_CvRow} {res : Bool} (h : F3 fuel p_r = some res) : PCall Try.prog 3 [(.agg [(di p_r.Steep), (L58 p_r.Points)])] (vb res) := by
  refine PCall.of_awp tt_ok (N := 107) Try.func3 rfl (by kernel_rfl) rfl (Nat.le_of_ble_eq_true rfl) rfl ?_
  unfold F3 at h
  refine awp_sreg tt_ok (ks := [1]) (hs := []) [(1, .ref 0 0)] [.cells [vi p_r.Steep, .d (L58 p_r.Points)]] [] (by kernel_rfl) trivial ?_
  obtain ⟨x1, hx1, h⟩ := Option.bind_eq_some_iff.1 h
  refine awp_sreg tt_ok (ks := [1, 3, 4, 5]) (hs := [.no, .call [(.agg [(di p_r.Steep), (L58 p_r.Points)])] (.tup [vi x1.1, vi x1.2.1, vi x1.2.2])]) [(1, .ref 0 0), (3, vi x1.1), (4, vi x1.2.1), (5, vi x1.2.2)] [.cells [vi p_r.Steep, .d (L58 p_r.Points)]] [PCall Try.prog 16 [(.agg [(di p_r.Steep), (L58 p_r.Points)])] (.tup [vi x1.1, vi x1.2.1, vi x1.2.2])] (by kernel_rfl) (ct16 hx1) ?_
  obtain ⟨x2, hx2, h⟩ := Option.bind_eq_some_iff.1 h
  refine awp_sreg tt_ok (ks := [1, 3, 4, 5, 6, 7, 8]) (hs := [.no, .call [(.agg [(di p_r.Steep), (L58 p_r.Points)])] (.tup [vi x2.1, vi x2.2.1, vi x2.2.2])]) [(1, .ref 0 0), (3, vi x1.1), (4, vi x1.2.1), (5, vi x1.2.2), (6, vi x2.1), (7, vi x2.2.1), (8, vi x2.2.2)] [.cells [vi p_r.Steep, .d (L58 p_r.Points)]] [PCall Try.prog 17 [(.agg [(di p_r.Steep), (L58 p_r.Points)])] (.tup [vi x2.1, vi x2.2.1, vi x2.2.2])] (by kernel_rfl) (ct17 hx2) ?_
  refine awp_seq ?_
  refine awp_sreg tt_ok (ks := [1, 41]) (hs := []) [(1, .ref 0 0), (41, vb (cond (cond (x1.1 != x2.1) true (x1.2.1 != x2.2.1)) true (x1.2.2 != x2.2.2)))] [.cells [vi p_r.Steep, .d (L58 p_r.Points)]] [((!(x1.1 != x2.1)) = true → (!(x1.1 != x2.1)) = true), ((!(x1.1 != x2.1)) = true → (!(x1.1 != x2.1)) = true), ((x1.1 != x2.1) = false → (!(x1.1 != x2.1)) = true), ((!(cond (x1.1 != x2.1) true (x1.2.1 != x2.2.1))) = true → (!(cond (x1.1 != x2.1) true (x1.2.1 != x2.2.1))) = true), ((!(cond (x1.1 != x2.1) true (x1.2.1 != x2.2.1))) = true → (!(cond (x1.1 != x2.1) true (x1.2.1 != x2.2.1))) = true), ((cond (x1.1 != x2.1) true (x1.2.1 != x2.2.1)) = false → (!(cond (x1.1 != x2.1) true (x1.2.1 != x2.2.1))) = true)] (by kernel_rfl) (And.intro (id) (And.intro (id) (And.intro (not_of) (And.intro (id) (And.intro (id) (not_of)))))) ?_
  refine awp_cond (b := (cond (cond (x1.1 != x2.1) true (x1.2.1 != x2.2.1)) true (x1.2.2 != x2.2.2))) (by kernel_rfl) (fun hb3 => ?_) (fun hb3 => ?_)
  · rw [if_pos hb3] at h
    refine awp_sreg tt_ok (ks := [2]) (hs := []) [(2, vb false)] [.cells [vi p_r.Steep, .d (L58 p_r.Points)]] [] (by kernel_rfl) trivial ?_
    obtain rfl := Option.some.inj h
    refine awp_wk 1 [2] (by kernel_rfl) [(2, vb false)] [.cells [vi p_r.Steep, .d (L58 p_r.Points)]] (by kernel_rfl) (by kernel_rfl) ?_
    exact awp_ret (main_ret (by kernel_rfl))
  · rw [if_neg (ntrue hb3)] at h
    refine awp_skip ?_
    show awp _ _ _ _ _ _ _ _
    obtain ⟨x4, hx4, h⟩ := Option.bind_eq_some_iff.1 h
    refine awp_sreg tt_ok (ks := [1, 5, 9]) (hs := [.no, .call [(.agg [(di p_r.Steep), (L58 p_r.Points)])] (.tup [.d (L56 x4.1), vi x4.2])]) [(1, .ref 0 0), (5, vi x4.2), (9, .d (L56 x4.1))] [.cells [vi p_r.Steep, .d (L58 p_r.Points)]] [PCall Try.prog 18 [(.agg [(di p_r.Steep), (L58 p_r.Points)])] (.tup [.d (L56 x4.1), vi x4.2])] (by kernel_rfl) (ct18 hx4) ?_
    obtain ⟨x5, hx5, h⟩ := Option.bind_eq_some_iff.1 h
    refine awp_sreg tt_ok (ks := [1, 5, 8, 9, 10]) (hs := [.no, .call [(.agg [(di p_r.Steep), (L58 p_r.Points)])] (.tup [.d (L56 x5.1), vi x5.2])]) [(1, .ref 0 0), (5, vi x4.2), (8, vi x5.2), (9, .d (L56 x4.1)), (10, .d (L56 x5.1))] [.cells [vi p_r.Steep, .d (L58 p_r.Points)]] [PCall Try.prog 19 [(.agg [(di p_r.Steep), (L58 p_r.Points)])] (.tup [.d (L56 x5.1), vi x5.2])] (by kernel_rfl) (ct19 hx5) ?_
    refine awp_seq ?_
    obtain ⟨x6, hx6, h⟩ := Option.bind_eq_some_iff.1 h
    refine awp_sreg tt_ok (ks := [1, 60]) (hs := [.no, .no, .call [(L56 x4.1), (L56 x5.1)] (vb x6)]) [(1, .ref 0 0), (60, vb (cond (!x6) true (x4.2 != x5.2)))] [.cells [vi p_r.Steep, .d (L58 p_r.Points)]] [PCall Try.prog 20 [(L56 x4.1), (L56 x5.1)] (vb x6), ((!(!x6)) = true → (!(!x6)) = true), ((!(!x6)) = true → (!(!x6)) = true), ((!x6) = false → (!(!x6)) = true)] (by kernel_rfl) (And.intro (ct20 hx6) (And.intro (id) (And.intro (id) (not_of)))) ?_
    refine awp_cond (b := (cond (!x6) true (x4.2 != x5.2))) (by kernel_rfl) (fun hb7 => ?_) (fun hb7 => ?_)
    · rw [if_pos hb7] at h
      refine awp_sreg tt_ok (ks := [2]) (hs := []) [(2, vb false)] [.cells [vi p_r.Steep, .d (L58 p_r.Points)]] [] (by kernel_rfl) trivial ?_
      obtain rfl := Option.some.inj h
      refine awp_wk 1 [2] (by kernel_rfl) [(2, vb false)] [.cells [vi p_r.Steep, .d (L58 p_r.Points)]] (by kernel_rfl) (by kernel_rfl) ?_
      exact awp_ret (main_ret (by kernel_rfl))
    · rw [if_neg (ntrue hb7)] at h
      refine awp_skip ?_
      show awp _ _ _ _ _ _ _ _
      obtain ⟨x8, hx8, h⟩ := Option.bind_eq_some_iff.1 h
      refine awp_sreg tt_ok (ks := [1, 5, 11, 12]) (hs := [.no, .call [(.agg [(di p_r.Steep), (L58 p_r.Points)])] (.tup [vi x8.1, vi x8.2.1, vi x8.2.2])]) [(1, .ref 0 0), (5, vi x8.2.2), (11, vi x8.1), (12, vi x8.2.1)] [.cells [vi p_r.Steep, .d (L58 p_r.Points)]] [PCall Try.prog 21 [(.agg [(di p_r.Steep), (L58 p_r.Points)])] (.tup [vi x8.1, vi x8.2.1, vi x8.2.2])] (by kernel_rfl) (ct21 hx8) ?_
      obtain ⟨x9, hx9, h⟩ := Option.bind_eq_some_iff.1 h
      refine awp_sreg tt_ok (ks := [1, 5, 8, 11, 12, 13, 14]) (hs := [.no, .call [(.agg [(di p_r.Steep), (L58 p_r.Points)])] (.tup [vi x9.1, vi x9.2.1, vi x9.2.2])]) [(1, .ref 0 0), (5, vi x8.2.2), (8, vi x9.2.2), (11, vi x8.1), (12, vi x8.2.1), (13, vi x9.1), (14, vi x9.2.1)] [.cells [vi p_r.Steep, .d (L58 p_r.Points)]] [PCall Try.prog 22 [(.agg [(di p_r.Steep), (L58 p_r.Points)])] (.tup [vi x9.1, vi x9.2.1, vi x9.2.2])] (by kernel_rfl) (ct22 hx9) ?_
      refine awp_seq ?_
      refine awp_sreg tt_ok (ks := [1, 85]) (hs := []) [(1, .ref 0 0), (85, vb (cond (cond (x8.1 != x9.1) true (x8.2.1 != x9.2.1)) true (x8.2.2 != x9.2.2)))] [.cells [vi p_r.Steep, .d (L58 p_r.Points)]] [((!(x8.1 != x9.1)) = true → (!(x8.1 != x9.1)) = true), ((!(x8.1 != x9.1)) = true → (!(x8.1 != x9.1)) = true), ((x8.1 != x9.1) = false → (!(x8.1 != x9.1)) = true), ((!(cond (x8.1 != x9.1) true (x8.2.1 != x9.2.1))) = true → (!(cond (x8.1 != x9.1) true (x8.2.1 != x9.2.1))) = true), ((!(cond (x8.1 != x9.1) true (x8.2.1 != x9.2.1))) = true → (!(cond (x8.1 != x9.1) true (x8.2.1 != x9.2.1))) = true), ((cond (x8.1 != x9.1) true (x8.2.1 != x9.2.1)) = false → (!(cond (x8.1 != x9.1) true (x8.2.1 != x9.2.1))) = true)] (by kernel_rfl) (And.intro (id) (And.intro (id) (And.intro (not_of) (And.intro (id) (And.intro (id) (not_of)))))) ?_
      refine awp_cond (b := (cond (cond (x8.1 != x9.1) true (x8.2.1 != x9.2.1)) true (x8.2.2 != x9.2.2))) (by kernel_rfl) (fun hb10 => ?_) (fun hb10 => ?_)
      · rw [if_pos hb10] at h
        refine awp_sreg tt_ok (ks := [2]) (hs := []) [(2, vb false)] [.cells [vi p_r.Steep, .d (L58 p_r.Points)]] [] (by kernel_rfl) trivial ?_
        obtain rfl := Option.some.inj h
        refine awp_wk 1 [2] (by kernel_rfl) [(2, vb false)] [.cells [vi p_r.Steep, .d (L58 p_r.Points)]] (by kernel_rfl) (by kernel_rfl) ?_
        exact awp_ret (main_ret (by kernel_rfl))
      · rw [if_neg (ntrue hb10)] at h
        refine awp_skip ?_
        show awp _ _ _ _ _ _ _ _
        obtain ⟨x11, hx11, h⟩ := Option.bind_eq_some_iff.1 h
        refine awp_sreg tt_ok (ks := [1, 5, 15]) (hs := [.no, .call [(.agg [(di p_r.Steep), (L58 p_r.Points)])] (.tup [vi x11.1, vi x11.2])]) [(1, .ref 0 0), (5, vi x11.2), (15, vi x11.1)] [.cells [vi p_r.Steep, .d (L58 p_r.Points)]] [PCall Try.prog 23 [(.agg [(di p_r.Steep), (L58 p_r.Points)])] (.tup [vi x11.1, vi x11.2])] (by kernel_rfl) (ct23 hx11) ?_
        obtain ⟨x12, hx12, h⟩ := Option.bind_eq_some_iff.1 h
        refine awp_sreg tt_ok (ks := [5, 8, 15, 16]) (hs := [.no, .call [(.agg [(di p_r.Steep), (L58 p_r.Points)])] (.tup [vi x12.1, vi x12.2])]) [(5, vi x11.2), (8, vi x12.2), (15, vi x11.1), (16, vi x12.1)] [.cells [vi p_r.Steep, .d (L58 p_r.Points)]] [PCall Try.prog 24 [(.agg [(di p_r.Steep), (L58 p_r.Points)])] (.tup [vi x12.1, vi x12.2])] (by kernel_rfl) (ct24 hx12) ?_
        obtain ⟨x13, hx13, h⟩ := Option.bind_eq_some_iff.1 h
        refine awp_sreg tt_ok (ks := [2]) (hs := [.no, .no, .no, .no, .no, .no, .no, .no, .no, .call [] (vb x13)]) [(2, vb (cond (cond (x11.1 == x12.1) (x11.2 == x12.2) false) x13 false))] [.cells [vi p_r.Steep, .d (L58 p_r.Points)]] [((x11.1 == x12.1) = true → (x11.1 == x12.1) = true), ((x11.1 == x12.1) = true → (x11.1 == x12.1) = true), ((x11.1 == x12.1) = true → (x11.1 == x12.1) = true), ((cond (x11.1 == x12.1) (x11.2 == x12.2) false) = true → PCall Try.prog 25 [] (vb x13)), ((cond (x11.1 == x12.1) (x11.2 == x12.2) false) = true → (cond (x11.1 == x12.1) (x11.2 == x12.2) false) = true)] (by kernel_rfl) (And.intro (id) (And.intro (id) (And.intro (id) (And.intro ((fun hg => ct25 (optG_of hx13 hg))) (id))))) ?_
        obtain rfl := Option.some.inj h
        refine awp_wk 1 [2] (by kernel_rfl) [(2, vb (cond (cond (x11.1 == x12.1) (x11.2 == x12.2) false) x13 false))] [.cells [vi p_r.Steep, .d (L58 p_r.Points)]] (by kernel_rfl) (by kernel_rfl) ?_
        exact awp_ret (main_ret (by kernel_rfl))
end Go.Proofs.Ytadejgckgnbaoaa
