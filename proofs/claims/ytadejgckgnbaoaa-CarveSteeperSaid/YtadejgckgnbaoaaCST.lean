/- That functions of the seat compute this. Printed by a program of mine. -/
import Derived.Test.YtadejgckgnbaoaaS
import Derived.Test.YtadejgckgnbaoaaCA1
import Derived.Test.YtadejgckgnbaoaaCA2
import Derived.Test.YtadejgckgnbaoaaCV
import Derived.Test.YtadejgckgnbaoaaDST
namespace Go.Proofs.Ytadejgckgnbaoaa
open Go Go.Sx
set_option linter.unusedVariables false

set_option maxRecDepth 100000 in
theorem ct11 {fuel : Nat}  {p_r : S_api_CvRow} {less : Int} {res : Bool} (h : F11 fuel p_r less = some res) : PCall Try.prog 11 [(.agg [(di p_r.Steep), (L58 p_r.Points)]), (.v (.int .u16 less))] (vb res) := by
  refine PCall.of_awp tt_ok (N := 82) Try.func11 rfl (by kernel_rfl) rfl (Nat.le_of_ble_eq_true rfl) rfl ?_
  unfold F11 at h
  refine awp_sreg tt_ok (ks := [1, 2]) (hs := []) [(1, .d (.v (.int .u16 less))), (2, .ref 0 0)] [.cells [vi p_r.Steep, .d (L58 p_r.Points)]] [] (by kernel_rfl) trivial ?_
  obtain ⟨x1, hx1, h⟩ := Option.bind_eq_some_iff.1 h
  refine awp_sreg tt_ok (ks := [1, 2, 5, 6]) (hs := [.no, .call [(.agg [(di p_r.Steep), (L58 p_r.Points)])] (.tup [vi x1.1, vi x1.2])]) [(1, .d (.v (.int .u16 less))), (2, .ref 0 0), (5, vi x1.1), (6, vi x1.2)] [.cells [vi p_r.Steep, .d (L58 p_r.Points)]] [PCall Try.prog 23 [(.agg [(di p_r.Steep), (L58 p_r.Points)])] (.tup [vi x1.1, vi x1.2])] (by kernel_rfl) (ct23 hx1) ?_
  refine awp_seq ?_
  obtain ⟨x2, hx2, h⟩ := Option.bind_eq_some_iff.1 h
  refine awp_sreg tt_ok (ks := [1, 2, 5, 6, 21]) (hs := [.no, .call [(.agg [(di p_r.Steep), (L58 p_r.Points)])] (vb x2)]) [(1, .d (.v (.int .u16 less))), (2, .ref 0 0), (5, vi x1.1), (6, vi x1.2), (21, vb (!x2))] [.cells [vi p_r.Steep, .d (L58 p_r.Points)]] [PCall Try.prog 40 [(.agg [(di p_r.Steep), (L58 p_r.Points)])] (vb x2)] (by kernel_rfl) (ct40 hx2) ?_
  refine awp_cond (b := (!x2)) (by kernel_rfl) (fun hb3 => ?_) (fun hb3 => ?_)
  · rw [if_pos hb3] at h
    obtain ⟨x4, hx4, h⟩ := Option.bind_eq_some_iff.1 h
    refine awp_sreg tt_ok (ks := [4]) (hs := [.no, .no, .no, .no, .no, .no, .no, .call [] (vb x4)]) [(4, vb (cond (cond (x1.2 != 0) (x1.1 == 0) false) x4 false))] [.cells [vi p_r.Steep, .d (L58 p_r.Points)]] [((x1.2 != 0) = true → (x1.2 != 0) = true), ((x1.2 != 0) = true → (x1.2 != 0) = true), ((cond (x1.2 != 0) (x1.1 == 0) false) = true → PCall Try.prog 25 [] (vb x4)), ((cond (x1.2 != 0) (x1.1 == 0) false) = true → (cond (x1.2 != 0) (x1.1 == 0) false) = true)] (by kernel_rfl) (And.intro (id) (And.intro (id) (And.intro ((fun hg => ct25 (optG_of hx4 hg))) (id)))) ?_
    obtain rfl := Option.some.inj h
    refine awp_wk 1 [4] (by kernel_rfl) [(4, vb (cond (cond (x1.2 != 0) (x1.1 == 0) false) x4 false))] [.cells [vi p_r.Steep, .d (L58 p_r.Points)]] (by kernel_rfl) (by kernel_rfl) ?_
    exact awp_ret (main_ret (by kernel_rfl))
  · rw [if_neg (ntrue hb3)] at h
    refine awp_skip ?_
    show awp _ _ _ _ _ _ _ _
    obtain ⟨x5, hx5, h⟩ := Option.bind_eq_some_iff.1 h
    refine awp_sreg tt_ok (ks := [1, 2, 5, 6, 8]) (hs := [.no, .call [(.agg [(di p_r.Steep), (L58 p_r.Points)])] (.tup [.d (L56 x5.1), vi x5.2])]) [(1, .d (.v (.int .u16 less))), (2, .ref 0 0), (5, vi x1.1), (6, vi x1.2), (8, vi x5.2)] [.cells [vi p_r.Steep, .d (L58 p_r.Points)]] [PCall Try.prog 18 [(.agg [(di p_r.Steep), (L58 p_r.Points)])] (.tup [.d (L56 x5.1), vi x5.2])] (by kernel_rfl) (ct18 hx5) ?_
    refine awp_seq ?_
    refine awp_sreg tt_ok (ks := [1, 2, 5, 50]) (hs := []) [(1, .d (.v (.int .u16 less))), (2, .ref 0 0), (5, vi x1.1), (50, vb (cond (cond (x1.2 != 0) true (decide (x1.1 < 0))) true (!((x5.2 == 0) == (decide (x1.1 ≤ p_r.Steep))))))] [.cells [vi p_r.Steep, .d (L58 p_r.Points)]] [((!(x1.2 != 0)) = true → (!(x1.2 != 0)) = true), ((x1.2 != 0) = false → (!(x1.2 != 0)) = true), ((!(cond (x1.2 != 0) true (decide (x1.1 < 0)))) = true → (!(cond (x1.2 != 0) true (decide (x1.1 < 0)))) = true), ((!(cond (x1.2 != 0) true (decide (x1.1 < 0)))) = true → (!(cond (x1.2 != 0) true (decide (x1.1 < 0)))) = true), ((!(cond (x1.2 != 0) true (decide (x1.1 < 0)))) = true → (!(cond (x1.2 != 0) true (decide (x1.1 < 0)))) = true), ((!(cond (x1.2 != 0) true (decide (x1.1 < 0)))) = true → (!(cond (x1.2 != 0) true (decide (x1.1 < 0)))) = true), ((!(cond (x1.2 != 0) true (decide (x1.1 < 0)))) = true → (!(cond (x1.2 != 0) true (decide (x1.1 < 0)))) = true), ((!(cond (x1.2 != 0) true (decide (x1.1 < 0)))) = true → (!(cond (x1.2 != 0) true (decide (x1.1 < 0)))) = true), ((cond (x1.2 != 0) true (decide (x1.1 < 0))) = false → (!(cond (x1.2 != 0) true (decide (x1.1 < 0)))) = true)] (by kernel_rfl) (And.intro (id) (And.intro (not_of) (And.intro (id) (And.intro (id) (And.intro (id) (And.intro (id) (And.intro (id) (And.intro (id) (not_of))))))))) ?_
    refine awp_cond (b := (cond (cond (x1.2 != 0) true (decide (x1.1 < 0))) true (!((x5.2 == 0) == (decide (x1.1 ≤ p_r.Steep)))))) (by kernel_rfl) (fun hb6 => ?_) (fun hb6 => ?_)
    · rw [if_pos hb6] at h
      refine awp_sreg tt_ok (ks := [4]) (hs := []) [(4, vb false)] [.cells [vi p_r.Steep, .d (L58 p_r.Points)]] [] (by kernel_rfl) trivial ?_
      obtain rfl := Option.some.inj h
      refine awp_wk 1 [4] (by kernel_rfl) [(4, vb false)] [.cells [vi p_r.Steep, .d (L58 p_r.Points)]] (by kernel_rfl) (by kernel_rfl) ?_
      exact awp_ret (main_ret (by kernel_rfl))
    · rw [if_neg (ntrue hb6)] at h
      refine awp_skip ?_
      show awp _ _ _ _ _ _ _ _
      refine awp_seq ?_
      refine awp_sreg tt_ok (ks := [1, 2, 5, 52]) (hs := []) [(1, .d (.v (.int .u16 less))), (2, .ref 0 0), (5, vi x1.1), (52, vb (decide (x1.1 > 200)))] [.cells [vi p_r.Steep, .d (L58 p_r.Points)]] [] (by kernel_rfl) trivial ?_
      refine awp_cond (b := (decide (x1.1 > 200))) (by kernel_rfl) (fun hb7 => ?_) (fun hb7 => ?_)
      · rw [if_pos hb7] at h
        obtain ⟨x8, hx8, h⟩ := Option.bind_eq_some_iff.1 h
        refine awp_sreg tt_ok (ks := [4]) (hs := [.call [] (vb x8)]) [(4, vb x8)] [.cells [vi p_r.Steep, .d (L58 p_r.Points)]] [PCall Try.prog 25 [] (vb x8)] (by kernel_rfl) (ct25 hx8) ?_
        obtain rfl := Option.some.inj h
        refine awp_wk 1 [4] (by kernel_rfl) [(4, vb x8)] [.cells [vi p_r.Steep, .d (L58 p_r.Points)]] (by kernel_rfl) (by kernel_rfl) ?_
        exact awp_ret (main_ret (by kernel_rfl))
      · rw [if_neg (ntrue hb7)] at h
        refine awp_skip ?_
        show awp _ _ _ _ _ _ _ _
        refine awp_sreg tt_ok (ks := [1, 5, 9]) (hs := []) [(1, .d (.v (.int .u16 less))), (5, vi x1.1), (9, .ref 1 0)] [.cells [vi p_r.Steep, .d (L58 p_r.Points)], .cells [vi p_r.Steep, .d (L58 p_r.Points)]] [] (by kernel_rfl) trivial ?_
        refine awp_sreg tt_ok (ks := [1, 5, 9]) (hs := []) [(1, .d (.v (.int .u16 less))), (5, vi x1.1), (9, .ref 1 0)] [.cells [vi p_r.Steep, .d (L58 p_r.Points)], .cells [vi x1.1, .d (L58 p_r.Points)]] [] (by kernel_rfl) trivial ?_
        obtain ⟨x9, hx9, h⟩ := Option.bind_eq_some_iff.1 h
        refine awp_sreg tt_ok (ks := [1, 5, 9, 11]) (hs := [.no, .call [(.agg [(di x1.1), (L58 p_r.Points)])] (.tup [.d (L56 x9.1), vi x9.2])]) [(1, .d (.v (.int .u16 less))), (5, vi x1.1), (9, .ref 1 0), (11, vi x9.2)] [.cells [vi p_r.Steep, .d (L58 p_r.Points)], .cells [vi x1.1, .d (L58 p_r.Points)]] [PCall Try.prog 18 [(.agg [(di x1.1), (L58 p_r.Points)])] (.tup [.d (L56 x9.1), vi x9.2])] (by kernel_rfl) (ct18 hx9) ?_
        refine awp_seq ?_
        refine awp_sreg tt_ok (ks := [1, 5, 9, 63]) (hs := []) [(1, .d (.v (.int .u16 less))), (5, vi x1.1), (9, .ref 1 0), (63, vb (x9.2 != 0))] [.cells [vi p_r.Steep, .d (L58 p_r.Points)], .cells [vi x1.1, .d (L58 p_r.Points)]] [] (by kernel_rfl) trivial ?_
        refine awp_cond (b := (x9.2 != 0)) (by kernel_rfl) (fun hb10 => ?_) (fun hb10 => ?_)
        · rw [if_pos hb10] at h
          refine awp_sreg tt_ok (ks := [4]) (hs := []) [(4, vb false)] [.cells [vi p_r.Steep, .d (L58 p_r.Points)], .cells [vi x1.1, .d (L58 p_r.Points)]] [] (by kernel_rfl) trivial ?_
          obtain rfl := Option.some.inj h
          refine awp_wk 2 [4] (by kernel_rfl) [(4, vb false)] [.cells [vi p_r.Steep, .d (L58 p_r.Points)], .cells [vi x1.1, .d (L58 p_r.Points)]] (by kernel_rfl) (by kernel_rfl) ?_
          exact awp_ret (main_ret (by kernel_rfl))
        · rw [if_neg (ntrue hb10)] at h
          refine awp_skip ?_
          show awp _ _ _ _ _ _ _ _
          refine awp_seq ?_
          refine awp_sreg tt_ok (ks := [1, 5, 9, 65]) (hs := []) [(1, .d (.v (.int .u16 less))), (5, vi x1.1), (9, .ref 1 0), (65, vb (x1.1 == 0))] [.cells [vi p_r.Steep, .d (L58 p_r.Points)], .cells [vi x1.1, .d (L58 p_r.Points)]] [] (by kernel_rfl) trivial ?_
          refine awp_cond (b := (x1.1 == 0)) (by kernel_rfl) (fun hb11 => ?_) (fun hb11 => ?_)
          · rw [if_pos hb11] at h
            obtain ⟨x12, hx12, h⟩ := Option.bind_eq_some_iff.1 h
            refine awp_sreg tt_ok (ks := [4]) (hs := [.call [] (vb x12)]) [(4, vb x12)] [.cells [vi p_r.Steep, .d (L58 p_r.Points)], .cells [vi x1.1, .d (L58 p_r.Points)]] [PCall Try.prog 25 [] (vb x12)] (by kernel_rfl) (ct25 hx12) ?_
            obtain rfl := Option.some.inj h
            refine awp_wk 2 [4] (by kernel_rfl) [(4, vb x12)] [.cells [vi p_r.Steep, .d (L58 p_r.Points)], .cells [vi x1.1, .d (L58 p_r.Points)]] (by kernel_rfl) (by kernel_rfl) ?_
            exact awp_ret (main_ret (by kernel_rfl))
          · rw [if_neg (ntrue hb11)] at h
            refine awp_skip ?_
            show awp _ _ _ _ _ _ _ _
            obtain ⟨x13, hx13, h⟩ := Option.bind_eq_some_iff.1 h
            refine awp_sreg tt_ok (ks := [9]) (hs := []) [(9, .ref 1 0)] [.cells [vi p_r.Steep, .d (L58 p_r.Points)], .cells [vi ((IntKind.i64.wrap less).tmod x1.1), .d (L58 p_r.Points)]] [(x1.1 ≠ 0)] (by kernel_rfl) ((need_of hx13 : x1.1 ≠ 0)) ?_
            obtain ⟨x14, hx14, h⟩ := Option.bind_eq_some_iff.1 h
            refine awp_sreg tt_ok (ks := [13]) (hs := [.no, .call [(.agg [(di ((IntKind.i64.wrap less).tmod x1.1)), (L58 p_r.Points)])] (.tup [.d (L56 x14.1), vi x14.2])]) [(13, vi x14.2)] [.cells [vi p_r.Steep, .d (L58 p_r.Points)], .cells [vi ((IntKind.i64.wrap less).tmod x1.1), .d (L58 p_r.Points)]] [PCall Try.prog 18 [(.agg [(di ((IntKind.i64.wrap less).tmod x1.1)), (L58 p_r.Points)])] (.tup [.d (L56 x14.1), vi x14.2])] (by kernel_rfl) (ct18 hx14) ?_
            obtain ⟨x15, hx15, h⟩ := Option.bind_eq_some_iff.1 h
            refine awp_sreg tt_ok (ks := [4]) (hs := [.no, .no, .no, .call [] (vb x15)]) [(4, vb (cond (x14.2 == 9) x15 false))] [.cells [vi p_r.Steep, .d (L58 p_r.Points)], .cells [vi ((IntKind.i64.wrap less).tmod x1.1), .d (L58 p_r.Points)]] [((x14.2 == 9) = true → PCall Try.prog 25 [] (vb x15)), ((x14.2 == 9) = true → (x14.2 == 9) = true)] (by kernel_rfl) (And.intro ((fun hg => ct25 (optG_of hx15 hg))) (id)) ?_
            obtain rfl := Option.some.inj h
            refine awp_wk 2 [4] (by kernel_rfl) [(4, vb (cond (x14.2 == 9) x15 false))] [.cells [vi p_r.Steep, .d (L58 p_r.Points)], .cells [vi ((IntKind.i64.wrap less).tmod x1.1), .d (L58 p_r.Points)]] (by kernel_rfl) (by kernel_rfl) ?_
            exact awp_ret (main_ret (by kernel_rfl))
end Go.Proofs.Ytadejgckgnbaoaa
