/- That functions of the seat compute this. Printed by a program of mine. -/
import Derived.Test.YtadejgckgnbaoaaS
import Derived.Test.YtadejgckgnbaoaaCA1
import Derived.Test.YtadejgckgnbaoaaCA2
import Derived.Test.YtadejgckgnbaoaaCV
import Derived.Test.YtadejgckgnbaoaaDK
namespace Go.Proofs.Ytadejgckgnbaoaa
open Go Go.Sx
set_option linter.unusedVariables false

set_option maxRecDepth 100000 in
theorem ct60 {fuel : Nat}  {p_r : S_api_CvRow} {p_s : (List Int)} {res : Int} (h : F60 fuel p_r p_s = some res) : PCall Try.prog 60 [(.agg [(di p_r.Steep), (L58 p_r.Points)]), (L3 p_s)] (vi res) := by
  refine PCall.of_awp tt_ok (N := 42) Try.func60 rfl (by kernel_rfl) rfl (Nat.le_of_ble_eq_true rfl) rfl ?_
  unfold F60 at h
  refine awp_sreg tt_ok (ks := [1, 2]) (hs := []) [(1, .d (L3 p_s)), (2, .ref 0 0)] [.cells [vi p_r.Steep, .d (L58 p_r.Points)]] [] (by kernel_rfl) trivial ?_
  obtain ⟨x1, hx1, h⟩ := Option.bind_eq_some_iff.1 h
  refine awp_sreg tt_ok (ks := [1, 2, 7]) (hs := [.no, .call [(.agg [(di p_r.Steep), (L58 p_r.Points)])] (.tup [vi x1.1, vi x1.2.1, vi x1.2.2])]) [(1, .d (L3 p_s)), (2, .ref 0 0), (7, vi x1.2.2)] [.cells [vi p_r.Steep, .d (L58 p_r.Points)]] [PCall Try.prog 17 [(.agg [(di p_r.Steep), (L58 p_r.Points)])] (.tup [vi x1.1, vi x1.2.1, vi x1.2.2])] (by kernel_rfl) (ct17 hx1) ?_
  refine awp_seq ?_
  refine awp_sreg tt_ok (ks := [1, 7, 24]) (hs := []) [(1, .d (L3 p_s)), (7, vi x1.2.2), (24, vb (cond (x1.2.2 == 0) ((p_s.length : Int) != (p_r.Points.length : Int)) false))] [.cells [vi p_r.Steep, .d (L58 p_r.Points)]] [((x1.2.2 == 0) = true → (x1.2.2 == 0) = true), ((x1.2.2 == 0) = true → (x1.2.2 == 0) = true), ((x1.2.2 == 0) = true → (x1.2.2 == 0) = true), ((x1.2.2 == 0) = true → (x1.2.2 == 0) = true), ((x1.2.2 == 0) = true → (x1.2.2 == 0) = true), ((x1.2.2 == 0) = true → (x1.2.2 == 0) = true)] (by kernel_rfl) (And.intro (id) (And.intro (id) (And.intro (id) (And.intro (id) (And.intro (id) (id)))))) ?_
  obtain ⟨o2, ho2, h⟩ := Option.bind_eq_some_iff.1 h
  refine awp_cut1 (OutQ (fun (ro2 : Int) => [(4, vi ro2)]) (fun (ro2 : Int) => []) (fun (so2 : Int) => [(1, .d (L3 p_s)), (7, vi so2)]) (fun (so2 : Int) => [.cells [vi p_r.Steep, .d (L58 p_r.Points)]]) o2) ?_ ?_
  · clear h
    have h := ho2
    clear ho2
    refine awp_selQ ?_
    refine awp_cond (b := (cond (x1.2.2 == 0) ((p_s.length : Int) != (p_r.Points.length : Int)) false)) (by kernel_rfl) (fun hb3 => ?_) (fun hb3 => ?_)
    · rw [if_pos hb3] at h
      refine awp_region (T' := [(1, .d (L3 p_s)), (7, vi 3)]) (H' := [.cells [vi p_r.Steep, .d (L58 p_r.Points)]]) (ps := []) tt_ok (ks := [1, 7]) (hs := []) (by kernel_rfl) trivial ?_
      obtain rfl := Option.some.inj h
      exact Sel.mk [0] [1, 7] (by kernel_rfl) (by kernel_rfl) (by kernel_rfl) OutQ.norm
    · rw [if_neg (ntrue hb3)] at h
      refine awp_skip ?_
      obtain rfl := Option.some.inj h
      exact Sel.mk [0] [1, 7] (by kernel_rfl) (by kernel_rfl) (by kernel_rfl) OutQ.norm
  · intro e T H hq
    cases o2 with
    | inl ro2 =>
      obtain ⟨rfl, rfl, rfl⟩ := hq
      rw [outK_inl] at h
      obtain rfl := Option.some.inj h
      exact main_ret (by kernel_rfl)
    | inr so2 =>
      obtain ⟨rfl, rfl, rfl⟩ := hq
      rw [outK_inr] at h
      show awp _ _ _ _ _ _ _ _
      refine awp_seq ?_
      refine awp_sreg tt_ok (ks := [1, 7, 8]) (hs := []) [(1, .d (L3 p_s)), (7, vi so2), (8, vi 0)] [.cells [vi p_r.Steep, .d (L58 p_r.Points)]] [] (by kernel_rfl) trivial ?_
      obtain ⟨o4, ho4, h⟩ := Option.bind_eq_some_iff.1 h
      refine awp_cut1 (OutQ (fun (ro4 : Int) => [(4, vi ro4)]) (fun (ro4 : Int) => []) (fun (so4 : Int) => [(7, vi so4)]) (fun (so4 : Int) => [.cells [vi p_r.Steep, .d (L58 p_r.Points)]]) o4) ?_ ?_
      · clear h
        have h := ho4
        clear ho4
        refine awp_selQ ?_
        refine awp_wk 1 [1, 7, 8] (by kernel_rfl) [(1, .d (L3 p_s)), (7, vi so2), (8, vi 0)] [.cells [vi p_r.Steep, .d (L58 p_r.Points)]] (by kernel_rfl) (by kernel_rfl) ?_
        refine awp_block ?_
        refine awp_loop (n := fuel) ?_
        refine awpN_ind (fun n (c5 : Int × Int) => F60L1 p_s n c5) o4 (fun (c5 : Int × Int) => [(1, .d (L3 p_s)), (7, vi c5.1), (8, vi c5.2)]) (fun (c5 : Int × Int) => [.cells [vi p_r.Steep, .d (L58 p_r.Points)]]) (fun _ => rfl) ?_ fuel (so2, 0) h
        clear h
        intro n6 c5 h hrn6
        change F60L1 p_s (n6 + 1) c5 = some o4 at h
        rw [F60L1] at h
        refine awp_seq ?_
        refine awp_sreg tt_ok (ks := [1, 7, 8, 32]) (hs := []) [(1, .d (L3 p_s)), (7, vi c5.1), (8, vi c5.2), (32, vb (cond (decide (c5.2 < (p_s.length : Int))) (c5.1 == 0) false))] [.cells [vi p_r.Steep, .d (L58 p_r.Points)]] [((decide (c5.2 < (p_s.length : Int))) = true → (decide (c5.2 < (p_s.length : Int))) = true), ((decide (c5.2 < (p_s.length : Int))) = true → (decide (c5.2 < (p_s.length : Int))) = true)] (by kernel_rfl) (And.intro (id) (id)) ?_
        refine awp_cond (b := (cond (decide (c5.2 < (p_s.length : Int))) (c5.1 == 0) false)) (by kernel_rfl) (fun hb7 => ?_) (fun hb7 => ?_)
        · rw [if_pos hb7] at h
          refine awp_skip ?_
          show awp _ _ _ _ _ _ _ _
          refine awp_seq ?_
          refine awp_block ?_
          obtain ⟨x8, hx8, h⟩ := Option.bind_eq_some_iff.1 h
          obtain ⟨x9, hx9, h⟩ := Option.bind_eq_some_iff.1 h
          refine awp_sreg tt_ok (ks := [1, 7, 8, 40]) (hs := [.no, .no, .cells (cel3 x8), .no, .call [(di x8), (di 0), (di 9000)] (vb x9)]) [(1, .d (L3 p_s)), (7, vi c5.1), (8, vi c5.2), (40, vb (!x9))] [.cells [vi p_r.Steep, .d (L58 p_r.Points)]] [IX3 p_s c5.2 x8, PCall Try.prog 50 [(di x8), (di 0), (di 9000)] (vb x9)] (by kernel_rfl) (And.intro (idxOk cel3_len hx8) (ct50 hx9)) ?_
          refine awp_cond (b := (!x9)) (by kernel_rfl) (fun hb10 => ?_) (fun hb10 => ?_)
          · rw [if_pos hb10] at h
            refine awp_region (T' := [(1, .d (L3 p_s)), (7, vi 7), (8, vi c5.2)]) (H' := [.cells [vi p_r.Steep, .d (L58 p_r.Points)]]) (ps := []) tt_ok (ks := [1, 7, 8]) (hs := []) (by kernel_rfl) trivial ?_
            show awp _ _ _ _ _ _ _ _
            refine awp_region (T' := [(1, .d (L3 p_s)), (7, vi 7), (8, vi (w64 (c5.2 + 1)))]) (H' := [.cells [vi p_r.Steep, .d (L58 p_r.Points)]]) (ps := []) tt_ok (ks := [1, 7, 8]) (hs := []) (by kernel_rfl) trivial ?_
            exact awpN_wk 1 [1, 7, 8] (by kernel_rfl) _ _ (by kernel_rfl) (by kernel_rfl) (hrn6 (7, (w64 (c5.2 + 1))) h)
          · rw [if_neg (ntrue hb10)] at h
            refine awp_skip ?_
            show awp _ _ _ _ _ _ _ _
            refine awp_region (T' := [(1, .d (L3 p_s)), (7, vi c5.1), (8, vi (w64 (c5.2 + 1)))]) (H' := [.cells [vi p_r.Steep, .d (L58 p_r.Points)]]) (ps := []) tt_ok (ks := [1, 7, 8]) (hs := []) (by kernel_rfl) trivial ?_
            exact awpN_wk 1 [1, 7, 8] (by kernel_rfl) _ _ (by kernel_rfl) (by kernel_rfl) (hrn6 (c5.1, (w64 (c5.2 + 1))) h)
        · rw [if_neg (ntrue hb7)] at h
          refine awp_exit ?_
          obtain rfl := Option.some.inj h
          exact Sel.mk [0] [7] (by kernel_rfl) (by kernel_rfl) (by kernel_rfl) OutQ.norm
      · intro e T H hq
        cases o4 with
        | inl ro4 =>
          obtain ⟨rfl, rfl, rfl⟩ := hq
          rw [outK_inl] at h
          obtain rfl := Option.some.inj h
          exact main_ret (by kernel_rfl)
        | inr so4 =>
          obtain ⟨rfl, rfl, rfl⟩ := hq
          rw [outK_inr] at h
          show awp _ _ _ _ _ _ _ _
          refine awp_sreg tt_ok (ks := [4]) (hs := []) [(4, vi so4)] [.cells [vi p_r.Steep, .d (L58 p_r.Points)]] [] (by kernel_rfl) trivial ?_
          obtain rfl := Option.some.inj h
          refine awp_wk 1 [4] (by kernel_rfl) [(4, vi so4)] [.cells [vi p_r.Steep, .d (L58 p_r.Points)]] (by kernel_rfl) (by kernel_rfl) ?_
          exact awp_ret (main_ret (by kernel_rfl))

set_option maxRecDepth 100000 in
theorem ct77  {p_r : S_api_CvRow} {before : (List Int)} {high : Int} {res : Int} (h : F77 p_r before high = some res) : PCall Try.prog 77 [(.agg [(di p_r.Steep), (L58 p_r.Points)]), (L3 before), (di high)] (vi res) := by
  refine PCall.of_awp tt_ok (N := 52) Try.func77 rfl (by kernel_rfl) rfl (Nat.le_of_ble_eq_true rfl) rfl ?_
  unfold F77 at h
  refine awp_sreg tt_ok (ks := [1, 2, 3]) (hs := []) [(1, .d (L3 before)), (2, vi high), (3, .ref 0 0)] [.cells [vi p_r.Steep, .d (L58 p_r.Points)]] [] (by kernel_rfl) trivial ?_
  refine awp_sreg tt_ok (ks := [1, 2, 3, 7]) (hs := []) [(1, .d (L3 before)), (2, vi high), (3, .ref 0 0), (7, vi (before.length : Int))] [.cells [vi p_r.Steep, .d (L58 p_r.Points)]] [] (by kernel_rfl) trivial ?_
  refine awp_seq ?_
  obtain ⟨x1, hx1, h⟩ := Option.bind_eq_some_iff.1 h
  refine awp_sreg tt_ok (ks := [1, 2, 3, 7, 17]) (hs := [.no, .no, .no, .no, .cells (cel58 x1)]) [(1, .d (L3 before)), (2, vi high), (3, .ref 0 0), (7, vi (before.length : Int)), (17, vb (decide (high < x1.Lo)))] [.cells [vi p_r.Steep, .d (L58 p_r.Points)]] [IX58 p_r.Points (before.length : Int) x1] (by kernel_rfl) (idxOk cel58_len hx1) ?_
  refine awp_cond (b := (decide (high < x1.Lo))) (by kernel_rfl) (fun hb2 => ?_) (fun hb2 => ?_)
  · rw [if_pos hb2] at h
    refine awp_sreg tt_ok (ks := [6]) (hs := []) [(6, vi 1)] [.cells [vi p_r.Steep, .d (L58 p_r.Points)]] [] (by kernel_rfl) trivial ?_
    obtain rfl := Option.some.inj h
    refine awp_wk 1 [6] (by kernel_rfl) [(6, vi 1)] [.cells [vi p_r.Steep, .d (L58 p_r.Points)]] (by kernel_rfl) (by kernel_rfl) ?_
    exact awp_ret (main_ret (by kernel_rfl))
  · rw [if_neg (ntrue hb2)] at h
    refine awp_skip ?_
    show awp _ _ _ _ _ _ _ _
    refine awp_seq ?_
    obtain ⟨x3, hx3, h⟩ := Option.bind_eq_some_iff.1 h
    refine awp_sreg tt_ok (ks := [1, 2, 3, 7, 25]) (hs := [.no, .no, .no, .no, .cells (cel58 x3)]) [(1, .d (L3 before)), (2, vi high), (3, .ref 0 0), (7, vi (before.length : Int)), (25, vb (decide (high > x3.Hi)))] [.cells [vi p_r.Steep, .d (L58 p_r.Points)]] [IX58 p_r.Points (before.length : Int) x3] (by kernel_rfl) (idxOk cel58_len hx3) ?_
    refine awp_cond (b := (decide (high > x3.Hi))) (by kernel_rfl) (fun hb4 => ?_) (fun hb4 => ?_)
    · rw [if_pos hb4] at h
      refine awp_sreg tt_ok (ks := [6]) (hs := []) [(6, vi 2)] [.cells [vi p_r.Steep, .d (L58 p_r.Points)]] [] (by kernel_rfl) trivial ?_
      obtain rfl := Option.some.inj h
      refine awp_wk 1 [6] (by kernel_rfl) [(6, vi 2)] [.cells [vi p_r.Steep, .d (L58 p_r.Points)]] (by kernel_rfl) (by kernel_rfl) ?_
      exact awp_ret (main_ret (by kernel_rfl))
    · rw [if_neg (ntrue hb4)] at h
      refine awp_skip ?_
      show awp _ _ _ _ _ _ _ _
      refine awp_seq ?_
      obtain ⟨x5, hx5, h⟩ := Option.bind_eq_some_iff.1 h
      obtain ⟨x6, hx6, h⟩ := Option.bind_eq_some_iff.1 h
      refine awp_sdraw tt_ok mixed (ks := [51]) (hs := [.no, .no, .no, .no, .no, .no, .no, .cells (cel3 x5), .no, .no, .no, .no, .no, .no, .no, .no, .no, .cells (cel3 x6), .no, .no, .no, .no, .no, .no, .own]) 23 [28, 39, 46, 48, 49, 50, 51] [(51, vb (cond (decide ((before.length : Int) > 0)) (cond (decide ((w64 (high - x5)) > p_r.Steep)) true (decide ((w64 (x6 - high)) > p_r.Steep))) false))] [.cells [vi p_r.Steep, .d (L58 p_r.Points)]] [((decide ((before.length : Int) > 0)) = true → (decide ((before.length : Int) > 0)) = true), ((decide ((before.length : Int) > 0)) = true → (decide ((before.length : Int) > 0)) = true), ((decide ((before.length : Int) > 0)) = true → (decide ((before.length : Int) > 0)) = true), ((decide ((before.length : Int) > 0)) = true → IX3 before (w64 ((before.length : Int) - 1)) x5), ((decide ((before.length : Int) > 0)) = true → (decide ((before.length : Int) > 0)) = true), ((decide ((before.length : Int) > 0)) = true → (decide ((before.length : Int) > 0)) = true), ((decide ((before.length : Int) > 0)) = true → (decide ((before.length : Int) > 0)) = true), ((decide ((before.length : Int) > 0)) = true → (decide ((before.length : Int) > 0)) = true), ((decide ((before.length : Int) > 0)) = true → (decide ((before.length : Int) > 0)) = true), ((decide ((before.length : Int) > 0)) = true → (decide ((before.length : Int) > 0)) = true), ((decide ((before.length : Int) > 0)) = true → (decide ((before.length : Int) > 0)) = true), (((decide ((before.length : Int) > 0)) && (!(decide ((w64 (high - x5)) > p_r.Steep)))) = true → ((decide ((before.length : Int) > 0)) && (!(decide ((w64 (high - x5)) > p_r.Steep)))) = true), (((decide ((before.length : Int) > 0)) && (!(decide ((w64 (high - x5)) > p_r.Steep)))) = true → ((decide ((before.length : Int) > 0)) && (!(decide ((w64 (high - x5)) > p_r.Steep)))) = true), (((decide ((before.length : Int) > 0)) && (!(decide ((w64 (high - x5)) > p_r.Steep)))) = true → ((decide ((before.length : Int) > 0)) && (!(decide ((w64 (high - x5)) > p_r.Steep)))) = true), (((decide ((before.length : Int) > 0)) && (!(decide ((w64 (high - x5)) > p_r.Steep)))) = true → IX3 before (w64 ((before.length : Int) - 1)) x6), (((decide ((before.length : Int) > 0)) && (!(decide ((w64 (high - x5)) > p_r.Steep)))) = true → ((decide ((before.length : Int) > 0)) && (!(decide ((w64 (high - x5)) > p_r.Steep)))) = true), (((decide ((before.length : Int) > 0)) && (!(decide ((w64 (high - x5)) > p_r.Steep)))) = true → ((decide ((before.length : Int) > 0)) && (!(decide ((w64 (high - x5)) > p_r.Steep)))) = true), (((decide ((before.length : Int) > 0)) && (!(decide ((w64 (high - x5)) > p_r.Steep)))) = true → ((decide ((before.length : Int) > 0)) && (!(decide ((w64 (high - x5)) > p_r.Steep)))) = true), (((decide ((before.length : Int) > 0)) && (!(decide ((w64 (high - x5)) > p_r.Steep)))) = true → ((decide ((before.length : Int) > 0)) && (!(decide ((w64 (high - x5)) > p_r.Steep)))) = true), (((decide ((before.length : Int) > 0)) && (!(decide ((w64 (high - x5)) > p_r.Steep)))) = true → ((decide ((before.length : Int) > 0)) && (!(decide ((w64 (high - x5)) > p_r.Steep)))) = true), (((decide ((before.length : Int) > 0)) && (!(decide ((w64 (high - x5)) > p_r.Steep)))) = true → ((decide ((before.length : Int) > 0)) && (!(decide ((w64 (high - x5)) > p_r.Steep)))) = true), ((decide ((before.length : Int) > 0)) = true → (decide ((before.length : Int) > 0)) = true), ((decide ((before.length : Int) > 0)) = true → (decide ((w64 (high - x5)) > p_r.Steep)) = false → ((decide ((before.length : Int) > 0)) && (!(decide ((w64 (high - x5)) > p_r.Steep)))) = true), ((decide ((before.length : Int) > 0)) = true → (decide ((before.length : Int) > 0)) = true)] (by kernel_rfl) (And.intro (id) (And.intro (id) (And.intro (id) (And.intro ((fun hg => idxOk cel3_len (optG_of hx5 hg))) (And.intro (id) (And.intro (id) (And.intro (id) (And.intro (id) (And.intro (id) (And.intro (id) (And.intro (id) (And.intro (id) (And.intro (id) (And.intro (id) (And.intro ((fun hg => idxOk cel3_len (optG_of hx6 hg))) (And.intro (id) (And.intro (id) (And.intro (id) (And.intro (id) (And.intro (id) (And.intro (id) (And.intro (id) (And.intro ((fun hg h1 => by first | exact hg | exact h1 | (rw [hg, h1]; rfl) | (simp only [hg, h1, Bool.not_true, Bool.not_false, Bool.and_self, Bool.true_and, Bool.and_true]; done) | (simp only [Bool.and_eq_true] at hg; simp only [hg, h1, Bool.not_true, Bool.not_false, Bool.and_self, Bool.true_and, Bool.and_true]; done) | simp_all)) (id)))))))))))))))))))))))) ?_
      refine awp_cond (b := (cond (decide ((before.length : Int) > 0)) (cond (decide ((w64 (high - x5)) > p_r.Steep)) true (decide ((w64 (x6 - high)) > p_r.Steep))) false)) (by kernel_rfl) (fun hb7 => ?_) (fun hb7 => ?_)
      · rw [if_pos hb7] at h
        refine awp_sreg tt_ok (ks := [6]) (hs := []) [(6, vi 3)] [.cells [vi p_r.Steep, .d (L58 p_r.Points)]] [] (by kernel_rfl) trivial ?_
        obtain rfl := Option.some.inj h
        refine awp_wk 1 [6] (by kernel_rfl) [(6, vi 3)] [.cells [vi p_r.Steep, .d (L58 p_r.Points)]] (by kernel_rfl) (by kernel_rfl) ?_
        exact awp_ret (main_ret (by kernel_rfl))
      · rw [if_neg (ntrue hb7)] at h
        refine awp_skip ?_
        show awp _ _ _ _ _ _ _ _
        refine awp_sreg tt_ok (ks := [6]) (hs := []) [(6, vi 0)] [.cells [vi p_r.Steep, .d (L58 p_r.Points)]] [] (by kernel_rfl) trivial ?_
        obtain rfl := Option.some.inj h
        refine awp_wk 1 [6] (by kernel_rfl) [(6, vi 0)] [.cells [vi p_r.Steep, .d (L58 p_r.Points)]] (by kernel_rfl) (by kernel_rfl) ?_
        exact awp_ret (main_ret (by kernel_rfl))

set_option maxRecDepth 100000 in
theorem ct61 {fuel : Nat}  {p_r : S_api_CvRow} {p_s : (List Int)} {res : Int × Int} (h : F61 fuel p_r p_s = some res) : PCall Try.prog 61 [(.agg [(di p_r.Steep), (L58 p_r.Points)]), (L3 p_s)] (.tup [vi res.1, vi res.2]) := by
  refine PCall.of_awp tt_ok (N := 27) Try.func61 rfl (by kernel_rfl) rfl (Nat.le_of_ble_eq_true rfl) rfl ?_
  unfold F61 at h
  refine awp_sreg tt_ok (ks := [1, 2]) (hs := []) [(1, .d (L3 p_s)), (2, .ref 0 0)] [.cells [vi p_r.Steep, .d (L58 p_r.Points)]] [] (by kernel_rfl) trivial ?_
  refine awp_seq ?_
  refine awp_sreg tt_ok (ks := [1, 2, 6]) (hs := []) [(1, .d (L3 p_s)), (2, .ref 0 0), (6, vi 0)] [.cells [vi p_r.Steep, .d (L58 p_r.Points)]] [] (by kernel_rfl) trivial ?_
  obtain ⟨o1, ho1, h⟩ := Option.bind_eq_some_iff.1 h
  refine awp_cut1 (OutQ (fun (ro1 : Int × Int) => [(4, vi ro1.1), (5, vi ro1.2)]) (fun (ro1 : Int × Int) => []) (fun (so1 : Unit) => []) (fun (so1 : Unit) => [.cells [vi p_r.Steep, .d (L58 p_r.Points)]]) o1) ?_ ?_
  · clear h
    have h := ho1
    clear ho1
    refine awp_selQ ?_
    refine awp_wk 1 [1, 2, 6] (by kernel_rfl) [(1, .d (L3 p_s)), (2, .ref 0 0), (6, vi 0)] [.cells [vi p_r.Steep, .d (L58 p_r.Points)]] (by kernel_rfl) (by kernel_rfl) ?_
    refine awp_block ?_
    refine awp_loop (n := fuel) ?_
    refine awpN_ind (fun n (c2 : Int) => F61L1 p_r p_s n c2) o1 (fun (c2 : Int) => [(1, .d (L3 p_s)), (2, .ref 0 0), (6, vi c2)]) (fun (c2 : Int) => [.cells [vi p_r.Steep, .d (L58 p_r.Points)]]) (fun _ => rfl) ?_ fuel 0 h
    clear h
    intro n3 c2 h hrn3
    change F61L1 p_r p_s (n3 + 1) c2 = some o1 at h
    rw [F61L1] at h
    refine awp_seq ?_
    refine awp_sreg tt_ok (ks := [1, 2, 6, 11]) (hs := []) [(1, .d (L3 p_s)), (2, .ref 0 0), (6, vi c2), (11, vb (decide (c2 < (p_s.length : Int))))] [.cells [vi p_r.Steep, .d (L58 p_r.Points)]] [] (by kernel_rfl) trivial ?_
    refine awp_cond (b := (decide (c2 < (p_s.length : Int)))) (by kernel_rfl) (fun hb4 => ?_) (fun hb4 => ?_)
    · rw [if_pos hb4] at h
      refine awp_skip ?_
      show awp _ _ _ _ _ _ _ _
      refine awp_seq ?_
      refine awp_block ?_
      obtain ⟨x5, hx5, h⟩ := Option.bind_eq_some_iff.1 h
      obtain ⟨x6, hx6, h⟩ := Option.bind_eq_some_iff.1 h
      obtain ⟨x7, hx7, h⟩ := Option.bind_eq_some_iff.1 h
      refine awp_sdraw tt_ok mixed (ks := [1, 2, 6, 7]) (hs := [.no, .no, .no, .list x5.length (x5.flatMap cel3), .no, .no, .cells (cel3 x6), .no, .call [(.agg [(di p_r.Steep), (L58 p_r.Points)]), (L3 x5), (di x6)] (vi x7)]) 8 [1, 2, 6, 7, 14, 17, 21, 22] [(1, .d (L3 p_s)), (2, .ref 0 0), (6, vi c2), (7, vi x7)] [.cells [vi p_r.Steep, .d (L58 p_r.Points)]] [SliceOk (p_s.flatMap cel3) 1 p_s.length 0 c2 x5.length (x5.flatMap cel3), IX3 p_s c2 x6, PCall Try.prog 77 [(.agg [(di p_r.Steep), (L58 p_r.Points)]), (L3 x5), (di x6)] (vi x7)] (by kernel_rfl) (And.intro (sliceOk cel3_len hx5) (And.intro (idxOk cel3_len hx6) (ct77 hx7))) ?_
      refine awp_sreg tt_ok (ks := [1, 2, 6, 7, 24]) (hs := []) [(1, .d (L3 p_s)), (2, .ref 0 0), (6, vi c2), (7, vi x7), (24, vb (x7 != 0))] [.cells [vi p_r.Steep, .d (L58 p_r.Points)]] [] (by kernel_rfl) trivial ?_
      refine awp_cond (b := (x7 != 0)) (by kernel_rfl) (fun hb8 => ?_) (fun hb8 => ?_)
      · rw [if_pos hb8] at h
        refine awp_sreg tt_ok (ks := [4, 5]) (hs := []) [(4, vi c2), (5, vi x7)] [.cells [vi p_r.Steep, .d (L58 p_r.Points)]] [] (by kernel_rfl) trivial ?_
        obtain rfl := Option.some.inj h
        refine awp_wk 1 [4, 5] (by kernel_rfl) [(4, vi c2), (5, vi x7)] [.cells [vi p_r.Steep, .d (L58 p_r.Points)]] (by kernel_rfl) (by kernel_rfl) ?_
        exact awp_ret (Sel.mk [] [4, 5] (by kernel_rfl) (by kernel_rfl) (by kernel_rfl) OutQ.ret)
      · rw [if_neg (ntrue hb8)] at h
        refine awp_skip ?_
        show awp _ _ _ _ _ _ _ _
        refine awp_region (T' := [(1, .d (L3 p_s)), (2, .ref 0 0), (6, vi (w64 (c2 + 1)))]) (H' := [.cells [vi p_r.Steep, .d (L58 p_r.Points)]]) (ps := []) tt_ok (ks := [1, 2, 6]) (hs := []) (by kernel_rfl) trivial ?_
        exact awpN_wk 1 [1, 2, 6] (by kernel_rfl) _ _ (by kernel_rfl) (by kernel_rfl) (hrn3 (w64 (c2 + 1)) h)
    · rw [if_neg (ntrue hb4)] at h
      refine awp_exit ?_
      obtain rfl := Option.some.inj h
      exact Sel.mk [0] [] (by kernel_rfl) (by kernel_rfl) (by kernel_rfl) OutQ.norm
  · intro e T H hq
    cases o1 with
    | inl ro1 =>
      obtain ⟨rfl, rfl, rfl⟩ := hq
      rw [outK_inl] at h
      obtain rfl := Option.some.inj h
      exact main_ret (by kernel_rfl)
    | inr so1 =>
      obtain ⟨rfl, rfl, rfl⟩ := hq
      rw [outK_inr] at h
      show awp _ _ _ _ _ _ _ _
      refine awp_sreg tt_ok (ks := [4, 5]) (hs := []) [(4, vi 0), (5, vi 0)] [.cells [vi p_r.Steep, .d (L58 p_r.Points)]] [] (by kernel_rfl) trivial ?_
      obtain rfl := Option.some.inj h
      refine awp_wk 1 [4, 5] (by kernel_rfl) [(4, vi 0), (5, vi 0)] [.cells [vi p_r.Steep, .d (L58 p_r.Points)]] (by kernel_rfl) (by kernel_rfl) ?_
      exact awp_ret (main_ret (by kernel_rfl))

set_option maxRecDepth 100000 in
theorem ct27 {fuel : Nat}  {p_r : S_api_CvRow} {p_s : (List Int)} {res : Int × Int × Int} (h : F27 fuel p_r p_s = some res) : PCall Try.prog 27 [(.agg [(di p_r.Steep), (L58 p_r.Points)]), (L3 p_s)] (.tup [vi res.1, vi res.2.1, vi res.2.2]) := by
  refine PCall.of_awp tt_ok (N := 24) Try.func27 rfl (by kernel_rfl) rfl (Nat.le_of_ble_eq_true rfl) rfl ?_
  unfold F27 at h
  refine awp_sreg tt_ok (ks := [1, 2]) (hs := []) [(1, .d (L3 p_s)), (2, .ref 0 0)] [.cells [vi p_r.Steep, .d (L58 p_r.Points)]] [] (by kernel_rfl) trivial ?_
  obtain ⟨x1, hx1, h⟩ := Option.bind_eq_some_iff.1 h
  refine awp_sreg tt_ok (ks := [1, 2, 7]) (hs := [.no, .no, .call [(.agg [(di p_r.Steep), (L58 p_r.Points)]), (L3 p_s)] (vi x1)]) [(1, .d (L3 p_s)), (2, .ref 0 0), (7, vi x1)] [.cells [vi p_r.Steep, .d (L58 p_r.Points)]] [PCall Try.prog 60 [(.agg [(di p_r.Steep), (L58 p_r.Points)]), (L3 p_s)] (vi x1)] (by kernel_rfl) (ct60 hx1) ?_
  refine awp_seq ?_
  refine awp_sreg tt_ok (ks := [1, 2, 7, 14]) (hs := []) [(1, .d (L3 p_s)), (2, .ref 0 0), (7, vi x1), (14, vb (x1 != 0))] [.cells [vi p_r.Steep, .d (L58 p_r.Points)]] [] (by kernel_rfl) trivial ?_
  refine awp_cond (b := (x1 != 0)) (by kernel_rfl) (fun hb2 => ?_) (fun hb2 => ?_)
  · rw [if_pos hb2] at h
    refine awp_sreg tt_ok (ks := [4, 5, 6]) (hs := []) [(4, vi 0), (5, vi 0), (6, vi x1)] [.cells [vi p_r.Steep, .d (L58 p_r.Points)]] [] (by kernel_rfl) trivial ?_
    obtain rfl := Option.some.inj h
    refine awp_wk 1 [4, 5, 6] (by kernel_rfl) [(4, vi 0), (5, vi 0), (6, vi x1)] [.cells [vi p_r.Steep, .d (L58 p_r.Points)]] (by kernel_rfl) (by kernel_rfl) ?_
    exact awp_ret (main_ret (by kernel_rfl))
  · rw [if_neg (ntrue hb2)] at h
    refine awp_skip ?_
    show awp _ _ _ _ _ _ _ _
    obtain ⟨x3, hx3, h⟩ := Option.bind_eq_some_iff.1 h
    refine awp_sreg tt_ok (ks := [8, 9]) (hs := [.no, .no, .call [(.agg [(di p_r.Steep), (L58 p_r.Points)]), (L3 p_s)] (.tup [vi x3.1, vi x3.2])]) [(8, vi x3.1), (9, vi x3.2)] [.cells [vi p_r.Steep, .d (L58 p_r.Points)]] [PCall Try.prog 61 [(.agg [(di p_r.Steep), (L58 p_r.Points)]), (L3 p_s)] (.tup [vi x3.1, vi x3.2])] (by kernel_rfl) (ct61 hx3) ?_
    refine awp_sreg tt_ok (ks := [4, 5, 6]) (hs := []) [(4, vi x3.1), (5, vi x3.2), (6, vi 0)] [.cells [vi p_r.Steep, .d (L58 p_r.Points)]] [] (by kernel_rfl) trivial ?_
    obtain rfl := Option.some.inj h
    refine awp_wk 1 [4, 5, 6] (by kernel_rfl) [(4, vi x3.1), (5, vi x3.2), (6, vi 0)] [.cells [vi p_r.Steep, .d (L58 p_r.Points)]] (by kernel_rfl) (by kernel_rfl) ?_
    exact awp_ret (main_ret (by kernel_rfl))

set_option maxRecDepth 100000 in
theorem ct43 {fuel : Nat}  {p_r : S_api_CvRow} {p_s : (List Int)} {res : Int} (h : F43 fuel p_r p_s = some res) : PCall Try.prog 43 [(.agg [(di p_r.Steep), (L58 p_r.Points)]), (L3 p_s)] (vi res) := by
  refine PCall.of_awp tt_ok (N := 28) Try.func43 rfl (by kernel_rfl) rfl (Nat.le_of_ble_eq_true rfl) rfl ?_
  unfold F43 at h
  refine awp_sreg tt_ok (ks := [1, 2]) (hs := []) [(1, .d (L3 p_s)), (2, .ref 0 0)] [.cells [vi p_r.Steep, .d (L58 p_r.Points)]] [] (by kernel_rfl) trivial ?_
  refine awp_sreg tt_ok (ks := [1, 2, 5]) (hs := []) [(1, .d (L3 p_s)), (2, .ref 0 0), (5, vi 0)] [.cells [vi p_r.Steep, .d (L58 p_r.Points)]] [] (by kernel_rfl) trivial ?_
  refine awp_seq ?_
  refine awp_sreg tt_ok (ks := [1, 2, 5, 6]) (hs := []) [(1, .d (L3 p_s)), (2, .ref 0 0), (5, vi 0), (6, vi 0)] [.cells [vi p_r.Steep, .d (L58 p_r.Points)]] [] (by kernel_rfl) trivial ?_
  obtain ⟨o1, ho1, h⟩ := Option.bind_eq_some_iff.1 h
  refine awp_cut1 (OutQ (fun (ro1 : Int) => [(4, vi ro1)]) (fun (ro1 : Int) => []) (fun (so1 : Int) => [(5, vi so1)]) (fun (so1 : Int) => [.cells [vi p_r.Steep, .d (L58 p_r.Points)]]) o1) ?_ ?_
  · clear h
    have h := ho1
    clear ho1
    refine awp_selQ ?_
    refine awp_wk 1 [1, 2, 5, 6] (by kernel_rfl) [(1, .d (L3 p_s)), (2, .ref 0 0), (5, vi 0), (6, vi 0)] [.cells [vi p_r.Steep, .d (L58 p_r.Points)]] (by kernel_rfl) (by kernel_rfl) ?_
    refine awp_block ?_
    refine awp_loop (n := fuel) ?_
    refine awpN_ind (fun n (c2 : Int × Int) => F43L1 p_r p_s n c2) o1 (fun (c2 : Int × Int) => [(1, .d (L3 p_s)), (2, .ref 0 0), (5, vi c2.1), (6, vi c2.2)]) (fun (c2 : Int × Int) => [.cells [vi p_r.Steep, .d (L58 p_r.Points)]]) (fun _ => rfl) ?_ fuel (0, 0) h
    clear h
    intro n3 c2 h hrn3
    change F43L1 p_r p_s (n3 + 1) c2 = some o1 at h
    rw [F43L1] at h
    refine awp_seq ?_
    refine awp_sreg tt_ok (ks := [1, 2, 5, 6, 10]) (hs := []) [(1, .d (L3 p_s)), (2, .ref 0 0), (5, vi c2.1), (6, vi c2.2), (10, vb (decide (c2.2 < (p_s.length : Int))))] [.cells [vi p_r.Steep, .d (L58 p_r.Points)]] [] (by kernel_rfl) trivial ?_
    refine awp_cond (b := (decide (c2.2 < (p_s.length : Int)))) (by kernel_rfl) (fun hb4 => ?_) (fun hb4 => ?_)
    · rw [if_pos hb4] at h
      refine awp_skip ?_
      show awp _ _ _ _ _ _ _ _
      refine awp_seq ?_
      refine awp_block ?_
      obtain ⟨x5, hx5, h⟩ := Option.bind_eq_some_iff.1 h
      obtain ⟨x6, hx6, h⟩ := Option.bind_eq_some_iff.1 h
      refine awp_draw (T' := [(1, .d (L3 p_s)), (2, .ref 0 0), (5, vi (w64 (c2.1 + (if (w64 (x5 - x6.Board)) > 0 then (w64 (x5 - x6.Board)) else 0)))), (6, vi c2.2)]) (H' := [.cells [vi p_r.Steep, .d (L58 p_r.Points)]]) (ps := [IX3 p_s c2.2 x5, IX58 p_r.Points c2.2 x6]) tt_ok mixed (ks := [1, 2, 5, 6]) (hs := [.no, .no, .no, .cells (cel3 x5), .no, .no, .no, .no, .cells (cel58 x6)]) (m := 13) (mid := [1, 2, 5, 6, 13, 25, 26]) (by kernel_rfl) (And.intro (idxOk cel3_len hx5) (idxOk cel58_len hx6)) ?_
      show awp _ _ _ _ _ _ _ _
      refine awp_region (T' := [(1, .d (L3 p_s)), (2, .ref 0 0), (5, vi (w64 (c2.1 + (if (w64 (x5 - x6.Board)) > 0 then (w64 (x5 - x6.Board)) else 0)))), (6, vi (w64 (c2.2 + 1)))]) (H' := [.cells [vi p_r.Steep, .d (L58 p_r.Points)]]) (ps := []) tt_ok (ks := [1, 2, 5, 6]) (hs := []) (by kernel_rfl) trivial ?_
      exact awpN_wk 1 [1, 2, 5, 6] (by kernel_rfl) _ _ (by kernel_rfl) (by kernel_rfl) (hrn3 ((w64 (c2.1 + (if (w64 (x5 - x6.Board)) > 0 then (w64 (x5 - x6.Board)) else 0))), (w64 (c2.2 + 1))) h)
    · rw [if_neg (ntrue hb4)] at h
      refine awp_exit ?_
      obtain rfl := Option.some.inj h
      exact Sel.mk [0] [5] (by kernel_rfl) (by kernel_rfl) (by kernel_rfl) OutQ.norm
  · intro e T H hq
    cases o1 with
    | inl ro1 =>
      obtain ⟨rfl, rfl, rfl⟩ := hq
      rw [outK_inl] at h
      obtain rfl := Option.some.inj h
      exact main_ret (by kernel_rfl)
    | inr so1 =>
      obtain ⟨rfl, rfl, rfl⟩ := hq
      rw [outK_inr] at h
      show awp _ _ _ _ _ _ _ _
      refine awp_sreg tt_ok (ks := [4]) (hs := []) [(4, vi so1)] [.cells [vi p_r.Steep, .d (L58 p_r.Points)]] [] (by kernel_rfl) trivial ?_
      obtain rfl := Option.some.inj h
      refine awp_wk 1 [4] (by kernel_rfl) [(4, vi so1)] [.cells [vi p_r.Steep, .d (L58 p_r.Points)]] (by kernel_rfl) (by kernel_rfl) ?_
      exact awp_ret (main_ret (by kernel_rfl))

set_option maxRecDepth 100000 in
theorem ct29 {fuel : Nat}  {p_r : S_api_CvRow} {p_s : (List Int)} {res : Int × Int} (h : F29 fuel p_r p_s = some res) : PCall Try.prog 29 [(.agg [(di p_r.Steep), (L58 p_r.Points)]), (L3 p_s)] (.tup [vi res.1, vi res.2]) := by
  refine PCall.of_awp tt_ok (N := 16) Try.func29 rfl (by kernel_rfl) rfl (Nat.le_of_ble_eq_true rfl) rfl ?_
  unfold F29 at h
  refine awp_sreg tt_ok (ks := [1, 2]) (hs := []) [(1, .d (L3 p_s)), (2, .ref 0 0)] [.cells [vi p_r.Steep, .d (L58 p_r.Points)]] [] (by kernel_rfl) trivial ?_
  obtain ⟨x1, hx1, h⟩ := Option.bind_eq_some_iff.1 h
  refine awp_sreg tt_ok (ks := [1, 2, 6]) (hs := [.no, .no, .call [(.agg [(di p_r.Steep), (L58 p_r.Points)]), (L3 p_s)] (vi x1)]) [(1, .d (L3 p_s)), (2, .ref 0 0), (6, vi x1)] [.cells [vi p_r.Steep, .d (L58 p_r.Points)]] [PCall Try.prog 60 [(.agg [(di p_r.Steep), (L58 p_r.Points)]), (L3 p_s)] (vi x1)] (by kernel_rfl) (ct60 hx1) ?_
  refine awp_seq ?_
  refine awp_sreg tt_ok (ks := [1, 2, 6, 11]) (hs := []) [(1, .d (L3 p_s)), (2, .ref 0 0), (6, vi x1), (11, vb (x1 != 0))] [.cells [vi p_r.Steep, .d (L58 p_r.Points)]] [] (by kernel_rfl) trivial ?_
  refine awp_cond (b := (x1 != 0)) (by kernel_rfl) (fun hb2 => ?_) (fun hb2 => ?_)
  · rw [if_pos hb2] at h
    refine awp_sreg tt_ok (ks := [4, 5]) (hs := []) [(4, vi 0), (5, vi x1)] [.cells [vi p_r.Steep, .d (L58 p_r.Points)]] [] (by kernel_rfl) trivial ?_
    obtain rfl := Option.some.inj h
    refine awp_wk 1 [4, 5] (by kernel_rfl) [(4, vi 0), (5, vi x1)] [.cells [vi p_r.Steep, .d (L58 p_r.Points)]] (by kernel_rfl) (by kernel_rfl) ?_
    exact awp_ret (main_ret (by kernel_rfl))
  · rw [if_neg (ntrue hb2)] at h
    refine awp_skip ?_
    show awp _ _ _ _ _ _ _ _
    obtain ⟨x3, hx3, h⟩ := Option.bind_eq_some_iff.1 h
    refine awp_sreg tt_ok (ks := [4, 5]) (hs := [.no, .no, .call [(.agg [(di p_r.Steep), (L58 p_r.Points)]), (L3 p_s)] (vi x3)]) [(4, vi x3), (5, vi 0)] [.cells [vi p_r.Steep, .d (L58 p_r.Points)]] [PCall Try.prog 43 [(.agg [(di p_r.Steep), (L58 p_r.Points)]), (L3 p_s)] (vi x3)] (by kernel_rfl) (ct43 hx3) ?_
    obtain rfl := Option.some.inj h
    refine awp_wk 1 [4, 5] (by kernel_rfl) [(4, vi x3), (5, vi 0)] [.cells [vi p_r.Steep, .d (L58 p_r.Points)]] (by kernel_rfl) (by kernel_rfl) ?_
    exact awp_ret (main_ret (by kernel_rfl))

set_option maxRecDepth 100000 in
theorem ct45 {fuel : Nat}  {p_r : S_api_CvRow} {p_s : (List Int)} {res : (List Int)} (h : F45 fuel p_r p_s = some res) : PCall Try.prog 45 [(.agg [(di p_r.Steep), (L58 p_r.Points)]), (L3 p_s)] (.d (L3 res)) := by
  refine PCall.of_awp tt_ok (N := 29) Try.func45 rfl (by kernel_rfl) rfl (Nat.le_of_ble_eq_true rfl) rfl ?_
  unfold F45 at h
  refine awp_sreg tt_ok (ks := [1, 2]) (hs := []) [(1, .d (L3 p_s)), (2, .ref 0 0)] [.cells [vi p_r.Steep, .d (L58 p_r.Points)]] [] (by kernel_rfl) trivial ?_
  refine awp_sreg tt_ok (ks := [1, 2, 5]) (hs := []) [(1, .d (L3 p_s)), (2, .ref 0 0), (5, .d dnil)] [.cells [vi p_r.Steep, .d (L58 p_r.Points)]] [] (by kernel_rfl) trivial ?_
  refine awp_seq ?_
  refine awp_sreg tt_ok (ks := [1, 2, 5, 6]) (hs := []) [(1, .d (L3 p_s)), (2, .ref 0 0), (5, .d dnil), (6, vi 0)] [.cells [vi p_r.Steep, .d (L58 p_r.Points)]] [] (by kernel_rfl) trivial ?_
  refine awp_nil 5 1 (by kernel_rfl) ?_
  refine awp_eq (T' := [(5, .sl 1 1 0 ([] : List Int).length), (1, .d (L3 p_s)), (2, .ref 0 0), (6, vi 0)]) (H' := [.cells [vi p_r.Steep, .d (L58 p_r.Points)], .data (([] : List Int).flatMap cel3)]) (by kernel_rfl) (by kernel_rfl) ?_
  refine awp_wk 2 [1, 2, 5, 6] (by kernel_rfl) [(1, .d (L3 p_s)), (2, .ref 0 0), (5, .sl 1 1 0 ([] : List Int).length), (6, vi 0)] [.cells [vi p_r.Steep, .d (L58 p_r.Points)], .data (([] : List Int).flatMap cel3)] (by kernel_rfl) (by kernel_rfl) ?_
  obtain ⟨o2, ho2, h⟩ := Option.bind_eq_some_iff.1 h
  refine awp_cut1 (OutQ (fun (ro2 : (List Int)) => [(4, .d (L3 ro2))]) (fun (ro2 : (List Int)) => []) (fun (so2 : (List Int)) => [(5, .sl 1 1 0 so2.length)]) (fun (so2 : (List Int)) => [.cells [vi p_r.Steep, .d (L58 p_r.Points)], .data (so2.flatMap cel3)]) o2) ?_ ?_
  · clear h
    have h := ho2
    clear ho2
    refine awp_selQ ?_
    refine awp_wk 2 [1, 2, 5, 6] (by kernel_rfl) [(1, .d (L3 p_s)), (2, .ref 0 0), (5, .sl 1 1 0 ([] : List Int).length), (6, vi 0)] [.cells [vi p_r.Steep, .d (L58 p_r.Points)], .data (([] : List Int).flatMap cel3)] (by kernel_rfl) (by kernel_rfl) ?_
    refine awp_block ?_
    refine awp_loop (n := fuel) ?_
    refine awpN_ind (fun n (c3 : Int × (List Int)) => F45L1 p_r p_s n c3) o2 (fun (c3 : Int × (List Int)) => [(1, .d (L3 p_s)), (2, .ref 0 0), (5, .sl 1 1 0 c3.2.length), (6, vi c3.1)]) (fun (c3 : Int × (List Int)) => [.cells [vi p_r.Steep, .d (L58 p_r.Points)], .data (c3.2.flatMap cel3)]) (fun _ => rfl) ?_ fuel (0, ([] : List Int)) h
    clear h
    intro n4 c3 h hrn4
    change F45L1 p_r p_s (n4 + 1) c3 = some o2 at h
    rw [F45L1] at h
    refine awp_seq ?_
    refine awp_sreg tt_ok (ks := [1, 2, 5, 6, 10]) (hs := []) [(1, .d (L3 p_s)), (2, .ref 0 0), (5, .sl 1 1 0 c3.2.length), (6, vi c3.1), (10, vb (decide (c3.1 < (p_s.length : Int))))] [.cells [vi p_r.Steep, .d (L58 p_r.Points)], .data (c3.2.flatMap cel3)] [] (by kernel_rfl) trivial ?_
    refine awp_cond (b := (decide (c3.1 < (p_s.length : Int)))) (by kernel_rfl) (fun hb5 => ?_) (fun hb5 => ?_)
    · rw [if_pos hb5] at h
      refine awp_skip ?_
      show awp _ _ _ _ _ _ _ _
      refine awp_seq ?_
      refine awp_block ?_
      obtain ⟨x6, hx6, h⟩ := Option.bind_eq_some_iff.1 h
      obtain ⟨x7, hx7, h⟩ := Option.bind_eq_some_iff.1 h
      obtain ⟨x8, hx8, h⟩ := Option.bind_eq_some_iff.1 h
      refine awp_draw (T' := [(1, .d (L3 p_s)), (2, .ref 0 0), (5, .sl 1 1 0 (c3.2 ++ ([(if (w64 (x6.Board - x7)) > 0 then (w64 (x6.Board - x7)) else 0)] : List Int)).length), (6, vi c3.1)]) (H' := [.cells [vi p_r.Steep, .d (L58 p_r.Points)], .data ((c3.2 ++ ([(if (w64 (x6.Board - x7)) > 0 then (w64 (x6.Board - x7)) else 0)] : List Int)).flatMap cel3)]) (ps := [IX58 p_r.Points c3.1 x6, IX3 p_s c3.1 x7, AppendOk ((c3.2.flatMap cel3).map .d) c3.2.length ([(if (w64 (x6.Board - x7)) > 0 then (w64 (x6.Board - x7)) else 0)] : List Int).length (c3.2 ++ ([(if (w64 (x6.Board - x7)) > 0 then (w64 (x6.Board - x7)) else 0)] : List Int)).length 1 8 (([(if (w64 (x6.Board - x7)) > 0 then (w64 (x6.Board - x7)) else 0)] : List Int).flatMap cel3) ((c3.2 ++ ([(if (w64 (x6.Board - x7)) > 0 then (w64 (x6.Board - x7)) else 0)] : List Int)).flatMap cel3)]) tt_ok mixed (ks := [1, 2, 5, 6]) (hs := [.no, .no, .no, .no, .cells (cel58 x6), .no, .no, .no, .no, .cells (cel3 x7), .no, .no, .no, .no, .list (c3.2 ++ ([(if (w64 (x6.Board - x7)) > 0 then (w64 (x6.Board - x7)) else 0)] : List Int)).length ((c3.2 ++ ([(if (w64 (x6.Board - x7)) > 0 then (w64 (x6.Board - x7)) else 0)] : List Int)).flatMap cel3)]) (m := 14) (mid := [1, 2, 5, 6, 13, 26, 27]) (by kernel_rfl) (And.intro (idxOk cel58_len hx6) (And.intro (idxOk cel3_len hx7) (appendOk cel3_len (need_of hx8)))) ?_
      show awp _ _ _ _ _ _ _ _
      refine awp_region (T' := [(1, .d (L3 p_s)), (2, .ref 0 0), (5, .sl 1 1 0 (c3.2 ++ ([(if (w64 (x6.Board - x7)) > 0 then (w64 (x6.Board - x7)) else 0)] : List Int)).length), (6, vi (w64 (c3.1 + 1)))]) (H' := [.cells [vi p_r.Steep, .d (L58 p_r.Points)], .data ((c3.2 ++ ([(if (w64 (x6.Board - x7)) > 0 then (w64 (x6.Board - x7)) else 0)] : List Int)).flatMap cel3)]) (ps := []) tt_ok (ks := [1, 2, 5, 6]) (hs := []) (by kernel_rfl) trivial ?_
      exact awpN_wk 2 [1, 2, 5, 6] (by kernel_rfl) _ _ (by kernel_rfl) (by kernel_rfl) (hrn4 ((w64 (c3.1 + 1)), (c3.2 ++ ([(if (w64 (x6.Board - x7)) > 0 then (w64 (x6.Board - x7)) else 0)] : List Int))) h)
    · rw [if_neg (ntrue hb5)] at h
      refine awp_exit ?_
      obtain rfl := Option.some.inj h
      exact Sel.mk [0, 1] [5] (by kernel_rfl) (by kernel_rfl) (by kernel_rfl) OutQ.norm
  · intro e T H hq
    cases o2 with
    | inl ro2 =>
      obtain ⟨rfl, rfl, rfl⟩ := hq
      rw [outK_inl] at h
      obtain rfl := Option.some.inj h
      exact main_ret (by kernel_rfl)
    | inr so2 =>
      obtain ⟨rfl, rfl, rfl⟩ := hq
      rw [outK_inr] at h
      show awp _ _ _ _ _ _ _ _
      refine awp_sreg tt_ok (ks := [4]) (hs := []) [(4, .sl 1 1 0 so2.length)] [.cells [vi p_r.Steep, .d (L58 p_r.Points)], .data (so2.flatMap cel3)] [] (by kernel_rfl) trivial ?_
      obtain rfl := Option.some.inj h
      refine awp_wk 2 [4] (by kernel_rfl) [(4, .sl 1 1 0 so2.length)] [.cells [vi p_r.Steep, .d (L58 p_r.Points)], .data (so2.flatMap cel3)] (by kernel_rfl) (by kernel_rfl) ?_
      refine awp_freeze 4 1 (so2.flatMap cel3) (.sl 1 1 0 so2.length) (.d (L3 so2)) _ _ (ps := [(so2.flatMap cel3).length = so2.length * 1]) (by kernel_rfl) (by kernel_rfl) (by kernel_rfl) (flatMap_len cel3 1 cel3_len so2) rfl rfl ?_
      refine awp_wk 2 [4] (by kernel_rfl) [(4, .d (L3 so2))] [.cells [vi p_r.Steep, .d (L58 p_r.Points)], .data (([] : List Int).flatMap cel3)] (by kernel_rfl) (by kernel_rfl) ?_
      exact awp_ret (main_ret (by kernel_rfl))

set_option maxRecDepth 100000 in
theorem ct44 {fuel : Nat}  {depths : (List Int)} {res : Int} (h : F44 fuel depths = some res) : PCall Try.prog 44 [(L3 depths)] (vi res) := by
  refine PCall.of_awp tt_ok (N := 26) Try.func44 rfl (by kernel_rfl) rfl (Nat.le_of_ble_eq_true rfl) rfl ?_
  unfold F44 at h
  refine awp_sreg tt_ok (ks := [0]) (hs := []) [(0, .d (L3 depths))] [] [] (by kernel_rfl) trivial ?_
  refine awp_sreg tt_ok (ks := [0, 3, 4]) (hs := []) [(0, .d (L3 depths)), (3, vi 0), (4, vi 0)] [] [] (by kernel_rfl) trivial ?_
  refine awp_seq ?_
  refine awp_sreg tt_ok (ks := [0, 3, 4, 5]) (hs := []) [(0, .d (L3 depths)), (3, vi 0), (4, vi 0), (5, vi 0)] [] [] (by kernel_rfl) trivial ?_
  obtain ⟨o1, ho1, h⟩ := Option.bind_eq_some_iff.1 h
  refine awp_cut1 (OutQ (fun (ro1 : Int) => [(2, vi ro1)]) (fun (ro1 : Int) => []) (fun (so1 : Int) => [(3, vi so1)]) (fun (so1 : Int) => []) o1) ?_ ?_
  · clear h
    have h := ho1
    clear ho1
    refine awp_selQ ?_
    refine awp_wk 0 [0, 3, 4, 5] (by kernel_rfl) [(0, .d (L3 depths)), (3, vi 0), (4, vi 0), (5, vi 0)] [] (by kernel_rfl) (by kernel_rfl) ?_
    refine awp_block ?_
    refine awp_loop (n := fuel) ?_
    refine awpN_ind (fun n (c2 : Int × Int × Int) => F44L1 depths n c2) o1 (fun (c2 : Int × Int × Int) => [(0, .d (L3 depths)), (3, vi c2.1), (4, vi c2.2.1), (5, vi c2.2.2)]) (fun (c2 : Int × Int × Int) => []) (fun _ => rfl) ?_ fuel (0, 0, 0) h
    clear h
    intro n3 c2 h hrn3
    change F44L1 depths (n3 + 1) c2 = some o1 at h
    rw [F44L1] at h
    refine awp_seq ?_
    refine awp_sreg tt_ok (ks := [0, 3, 4, 5, 9]) (hs := []) [(0, .d (L3 depths)), (3, vi c2.1), (4, vi c2.2.1), (5, vi c2.2.2), (9, vb (decide (c2.2.2 < (depths.length : Int))))] [] [] (by kernel_rfl) trivial ?_
    refine awp_cond (b := (decide (c2.2.2 < (depths.length : Int)))) (by kernel_rfl) (fun hb4 => ?_) (fun hb4 => ?_)
    · rw [if_pos hb4] at h
      refine awp_skip ?_
      show awp _ _ _ _ _ _ _ _
      refine awp_seq ?_
      refine awp_block ?_
      obtain ⟨x5, hx5, h⟩ := Option.bind_eq_some_iff.1 h
      refine awp_sreg tt_ok (ks := [0, 3, 5]) (hs := [.no, .no, .no, .cells (cel3 x5)]) [(0, .d (L3 depths)), (3, vi (w64 (c2.1 + (if (w64 (x5 - c2.2.1)) > 0 then (w64 (x5 - c2.2.1)) else 0)))), (5, vi c2.2.2)] [] [IX3 depths c2.2.2 x5] (by kernel_rfl) (idxOk cel3_len hx5) ?_
      obtain ⟨x6, hx6, h⟩ := Option.bind_eq_some_iff.1 h
      refine awp_region (T' := [(0, .d (L3 depths)), (3, vi (w64 (c2.1 + (if (w64 (x5 - c2.2.1)) > 0 then (w64 (x5 - c2.2.1)) else 0)))), (4, vi x6), (5, vi c2.2.2)]) (H' := []) (ps := [IX3 depths c2.2.2 x6]) tt_ok (ks := [0, 3, 4, 5]) (hs := [.no, .no, .cells (cel3 x6)]) (by kernel_rfl) (idxOk cel3_len hx6) ?_
      show awp _ _ _ _ _ _ _ _
      refine awp_region (T' := [(0, .d (L3 depths)), (3, vi (w64 (c2.1 + (if (w64 (x5 - c2.2.1)) > 0 then (w64 (x5 - c2.2.1)) else 0)))), (4, vi x6), (5, vi (w64 (c2.2.2 + 1)))]) (H' := []) (ps := []) tt_ok (ks := [0, 3, 4, 5]) (hs := []) (by kernel_rfl) trivial ?_
      exact awpN_wk 0 [0, 3, 4, 5] (by kernel_rfl) _ _ (by kernel_rfl) (by kernel_rfl) (hrn3 ((w64 (c2.1 + (if (w64 (x5 - c2.2.1)) > 0 then (w64 (x5 - c2.2.1)) else 0))), x6, (w64 (c2.2.2 + 1))) h)
    · rw [if_neg (ntrue hb4)] at h
      refine awp_exit ?_
      obtain rfl := Option.some.inj h
      exact Sel.mk [] [3] (by kernel_rfl) (by kernel_rfl) (by kernel_rfl) OutQ.norm
  · intro e T H hq
    cases o1 with
    | inl ro1 =>
      obtain ⟨rfl, rfl, rfl⟩ := hq
      rw [outK_inl] at h
      obtain rfl := Option.some.inj h
      exact main_ret (by kernel_rfl)
    | inr so1 =>
      obtain ⟨rfl, rfl, rfl⟩ := hq
      rw [outK_inr] at h
      show awp _ _ _ _ _ _ _ _
      refine awp_sreg tt_ok (ks := [2]) (hs := []) [(2, vi so1)] [] [] (by kernel_rfl) trivial ?_
      obtain rfl := Option.some.inj h
      refine awp_wk 0 [2] (by kernel_rfl) [(2, vi so1)] [] (by kernel_rfl) (by kernel_rfl) ?_
      exact awp_ret (main_ret (by kernel_rfl))

set_option maxRecDepth 100000 in
theorem ct31 {fuel : Nat}  {p_r : S_api_CvRow} {p_s : (List Int)} {res : (List S_api_CvPass) × Int} (h : F31 fuel p_r p_s = some res) : PCall Try.prog 31 [(.agg [(di p_r.Steep), (L58 p_r.Points)]), (L3 p_s)] (.tup [.d (L84 res.1), vi res.2]) := by
  refine PCall.of_awp tt_ok (N := 80) Try.func31 rfl (by kernel_rfl) rfl (Nat.le_of_ble_eq_true rfl) rfl ?_
  unfold F31 at h
  refine awp_sreg tt_ok (ks := [1, 2]) (hs := []) [(1, .d (L3 p_s)), (2, .ref 0 0)] [.cells [vi p_r.Steep, .d (L58 p_r.Points)]] [] (by kernel_rfl) trivial ?_
  obtain ⟨x1, hx1, h⟩ := Option.bind_eq_some_iff.1 h
  refine awp_sreg tt_ok (ks := [1, 2, 6]) (hs := [.no, .no, .call [(.agg [(di p_r.Steep), (L58 p_r.Points)]), (L3 p_s)] (vi x1)]) [(1, .d (L3 p_s)), (2, .ref 0 0), (6, vi x1)] [.cells [vi p_r.Steep, .d (L58 p_r.Points)]] [PCall Try.prog 60 [(.agg [(di p_r.Steep), (L58 p_r.Points)]), (L3 p_s)] (vi x1)] (by kernel_rfl) (ct60 hx1) ?_
  refine awp_seq ?_
  refine awp_sreg tt_ok (ks := [1, 2, 6, 16]) (hs := []) [(1, .d (L3 p_s)), (2, .ref 0 0), (6, vi x1), (16, vb (x1 != 0))] [.cells [vi p_r.Steep, .d (L58 p_r.Points)]] [] (by kernel_rfl) trivial ?_
  refine awp_cond (b := (x1 != 0)) (by kernel_rfl) (fun hb2 => ?_) (fun hb2 => ?_)
  · rw [if_pos hb2] at h
    refine awp_sreg tt_ok (ks := [4, 5]) (hs := []) [(4, .d dnil), (5, vi x1)] [.cells [vi p_r.Steep, .d (L58 p_r.Points)]] [] (by kernel_rfl) trivial ?_
    obtain rfl := Option.some.inj h
    refine awp_wk 1 [4, 5] (by kernel_rfl) [(4, .d dnil), (5, vi x1)] [.cells [vi p_r.Steep, .d (L58 p_r.Points)]] (by kernel_rfl) (by kernel_rfl) ?_
    refine awp_laxT 4 _ (L84 ([] : List S_api_CvPass)) _ (by kernel_rfl) (.nil (e := 2)) rfl ?_
    refine awp_wk 1 [4, 5] (by kernel_rfl) [(4, .d (L84 ([] : List S_api_CvPass))), (5, vi x1)] [.cells [vi p_r.Steep, .d (L58 p_r.Points)]] (by kernel_rfl) (by kernel_rfl) ?_
    exact awp_ret (main_ret (by kernel_rfl))
  · rw [if_neg (ntrue hb2)] at h
    refine awp_skip ?_
    show awp _ _ _ _ _ _ _ _
    obtain ⟨x3, hx3, h⟩ := Option.bind_eq_some_iff.1 h
    refine awp_sreg tt_ok (ks := [7]) (hs := [.no, .no, .call [(.agg [(di p_r.Steep), (L58 p_r.Points)]), (L3 p_s)] (.d (L3 x3))]) [(7, .d (L3 x3))] [.cells [vi p_r.Steep, .d (L58 p_r.Points)]] [PCall Try.prog 45 [(.agg [(di p_r.Steep), (L58 p_r.Points)]), (L3 p_s)] (.d (L3 x3))] (by kernel_rfl) (ct45 hx3) ?_
    refine awp_seq ?_
    obtain ⟨x4, hx4, h⟩ := Option.bind_eq_some_iff.1 h
    refine awp_sreg tt_ok (ks := [7, 23]) (hs := [.no, .call [(L3 x3)] (vi x4)]) [(7, .d (L3 x3)), (23, vb (decide (x4 > 60)))] [.cells [vi p_r.Steep, .d (L58 p_r.Points)]] [PCall Try.prog 44 [(L3 x3)] (vi x4)] (by kernel_rfl) (ct44 hx4) ?_
    refine awp_cond (b := (decide (x4 > 60))) (by kernel_rfl) (fun hb5 => ?_) (fun hb5 => ?_)
    · rw [if_pos hb5] at h
      refine awp_sreg tt_ok (ks := [4, 5]) (hs := []) [(4, .d dnil), (5, vi 9)] [.cells [vi p_r.Steep, .d (L58 p_r.Points)]] [] (by kernel_rfl) trivial ?_
      obtain rfl := Option.some.inj h
      refine awp_wk 1 [4, 5] (by kernel_rfl) [(4, .d dnil), (5, vi 9)] [.cells [vi p_r.Steep, .d (L58 p_r.Points)]] (by kernel_rfl) (by kernel_rfl) ?_
      refine awp_laxT 4 _ (L84 ([] : List S_api_CvPass)) _ (by kernel_rfl) (.nil (e := 2)) rfl ?_
      refine awp_wk 1 [4, 5] (by kernel_rfl) [(4, .d (L84 ([] : List S_api_CvPass))), (5, vi 9)] [.cells [vi p_r.Steep, .d (L58 p_r.Points)]] (by kernel_rfl) (by kernel_rfl) ?_
      exact awp_ret (main_ret (by kernel_rfl))
    · rw [if_neg (ntrue hb5)] at h
      refine awp_skip ?_
      show awp _ _ _ _ _ _ _ _
      refine awp_sreg tt_ok (ks := [7, 8]) (hs := []) [(7, .d (L3 x3)), (8, .d dnil)] [.cells [vi p_r.Steep, .d (L58 p_r.Points)]] [] (by kernel_rfl) trivial ?_
      refine awp_seq ?_
      refine awp_sreg tt_ok (ks := [7, 8, 9]) (hs := []) [(7, .d (L3 x3)), (8, .d dnil), (9, vi 1)] [.cells [vi p_r.Steep, .d (L58 p_r.Points)]] [] (by kernel_rfl) trivial ?_
      refine awp_nil 8 2 (by kernel_rfl) ?_
      refine awp_eq (T' := [(8, .sl 2 1 0 ([] : List S_api_CvPass).length), (7, .d (L3 x3)), (9, vi 1)]) (H' := [.cells [vi p_r.Steep, .d (L58 p_r.Points)], .data (([] : List S_api_CvPass).flatMap cel84)]) (by kernel_rfl) (by kernel_rfl) ?_
      refine awp_wk 2 [7, 8, 9] (by kernel_rfl) [(7, .d (L3 x3)), (8, .sl 2 1 0 ([] : List S_api_CvPass).length), (9, vi 1)] [.cells [vi p_r.Steep, .d (L58 p_r.Points)], .data (([] : List S_api_CvPass).flatMap cel84)] (by kernel_rfl) (by kernel_rfl) ?_
      obtain ⟨o7, ho7, h⟩ := Option.bind_eq_some_iff.1 h
      refine awp_cut1 (OutQ (fun (ro7 : (List S_api_CvPass) × Int) => [(4, .d (L84 ro7.1)), (5, vi ro7.2)]) (fun (ro7 : (List S_api_CvPass) × Int) => []) (fun (so7 : (List S_api_CvPass)) => [(8, .sl 2 1 0 so7.length)]) (fun (so7 : (List S_api_CvPass)) => [.cells [vi p_r.Steep, .d (L58 p_r.Points)], .data (so7.flatMap cel84)]) o7) ?_ ?_
      · clear h
        have h := ho7
        clear ho7
        refine awp_selQ ?_
        refine awp_wk 2 [7, 8, 9] (by kernel_rfl) [(7, .d (L3 x3)), (8, .sl 2 1 0 ([] : List S_api_CvPass).length), (9, vi 1)] [.cells [vi p_r.Steep, .d (L58 p_r.Points)], .data (([] : List S_api_CvPass).flatMap cel84)] (by kernel_rfl) (by kernel_rfl) ?_
        refine awp_block ?_
        refine awp_loop (n := fuel) ?_
        refine awpN_ind (fun n (c8 : Int × (List S_api_CvPass)) => F31L1 fuel x3 n c8) o7 (fun (c8 : Int × (List S_api_CvPass)) => [(7, .d (L3 x3)), (8, .sl 2 1 0 c8.2.length), (9, vi c8.1)]) (fun (c8 : Int × (List S_api_CvPass)) => [.cells [vi p_r.Steep, .d (L58 p_r.Points)], .data (c8.2.flatMap cel84)]) (fun _ => rfl) ?_ fuel (1, ([] : List S_api_CvPass)) h
        clear h
        intro n9 c8 h hrn9
        change F31L1 fuel x3 (n9 + 1) c8 = some o7 at h
        rw [F31L1] at h
        refine awp_seq ?_
        obtain ⟨x10, hx10, h⟩ := Option.bind_eq_some_iff.1 h
        refine awp_sreg tt_ok (ks := [7, 8, 9, 28]) (hs := [.no, .no, .no, .call [(L3 x3)] (vi x10)]) [(7, .d (L3 x3)), (8, .sl 2 1 0 c8.2.length), (9, vi c8.1), (28, vb (decide ((c8.2.length : Int) < x10)))] [.cells [vi p_r.Steep, .d (L58 p_r.Points)], .data (c8.2.flatMap cel84)] [PCall Try.prog 44 [(L3 x3)] (vi x10)] (by kernel_rfl) (ct44 hx10) ?_
        refine awp_cond (b := (decide ((c8.2.length : Int) < x10))) (by kernel_rfl) (fun hb11 => ?_) (fun hb11 => ?_)
        · rw [if_pos hb11] at h
          refine awp_skip ?_
          show awp _ _ _ _ _ _ _ _
          refine awp_seq ?_
          refine awp_block ?_
          refine awp_sreg tt_ok (ks := [7, 8, 9, 10]) (hs := []) [(7, .d (L3 x3)), (8, .sl 2 1 0 c8.2.length), (9, vi c8.1), (10, vi 0)] [.cells [vi p_r.Steep, .d (L58 p_r.Points)], .data (c8.2.flatMap cel84)] [] (by kernel_rfl) trivial ?_
          obtain ⟨o12, ho12, h⟩ := Option.bind_eq_some_iff.1 h
          refine awp_cut1 (OutQ (fun (ro12 : (List S_api_CvPass) × Int) => [(4, .d (L84 ro12.1)), (5, vi ro12.2)]) (fun (ro12 : (List S_api_CvPass) × Int) => []) (fun (so12 : (List S_api_CvPass)) => [(7, .d (L3 x3)), (8, .sl 2 1 0 so12.length), (9, vi c8.1)]) (fun (so12 : (List S_api_CvPass)) => [.cells [vi p_r.Steep, .d (L58 p_r.Points)], .data (so12.flatMap cel84)]) o12) ?_ ?_
          · clear h
            have h := ho12
            clear ho12
            refine awp_selQ ?_
            refine awp_wk 2 [7, 8, 9, 10] (by kernel_rfl) [(7, .d (L3 x3)), (8, .sl 2 1 0 c8.2.length), (9, vi c8.1), (10, vi 0)] [.cells [vi p_r.Steep, .d (L58 p_r.Points)], .data (c8.2.flatMap cel84)] (by kernel_rfl) (by kernel_rfl) ?_
            refine awp_block ?_
            refine awp_loop (n := fuel) ?_
            refine awpN_ind (fun n (c13 : Int × (List S_api_CvPass)) => F31L2 fuel x3 c8 n c13) o12 (fun (c13 : Int × (List S_api_CvPass)) => [(7, .d (L3 x3)), (8, .sl 2 1 0 c13.2.length), (9, vi c8.1), (10, vi c13.1)]) (fun (c13 : Int × (List S_api_CvPass)) => [.cells [vi p_r.Steep, .d (L58 p_r.Points)], .data (c13.2.flatMap cel84)]) (fun _ => rfl) ?_ fuel (0, c8.2) h
            clear h
            intro n14 c13 h hrn14
            change F31L2 fuel x3 c8 (n14 + 1) c13 = some o12 at h
            rw [F31L2] at h
            refine awp_seq ?_
            refine awp_sreg tt_ok (ks := [7, 8, 9, 10, 34]) (hs := []) [(7, .d (L3 x3)), (8, .sl 2 1 0 c13.2.length), (9, vi c8.1), (10, vi c13.1), (34, vb (decide (c13.1 < (x3.length : Int))))] [.cells [vi p_r.Steep, .d (L58 p_r.Points)], .data (c13.2.flatMap cel84)] [] (by kernel_rfl) trivial ?_
            refine awp_cond (b := (decide (c13.1 < (x3.length : Int)))) (by kernel_rfl) (fun hb15 => ?_) (fun hb15 => ?_)
            · rw [if_pos hb15] at h
              refine awp_skip ?_
              show awp _ _ _ _ _ _ _ _
              refine awp_seq ?_
              refine awp_block ?_
              refine awp_seq ?_
              obtain ⟨x16, hx16, h⟩ := Option.bind_eq_some_iff.1 h
              obtain ⟨x17, hx17, h⟩ := Option.bind_eq_some_iff.1 h
              refine awp_sreg tt_ok (ks := [7, 8, 9, 10, 55]) (hs := [.no, .no, .cells (cel3 x16), .no, .no, .no, .no, .no, .no, .no, .no, .no, .no, .cells (cel3 x17), .no, .no, .no, .own]) [(7, .d (L3 x3)), (8, .sl 2 1 0 c13.2.length), (9, vi c8.1), (10, vi c13.1), (55, vb (cond (decide (x16 < c8.1)) true (cond (decide (c13.1 > 0)) (decide (x17 ≥ c8.1)) false)))] [.cells [vi p_r.Steep, .d (L58 p_r.Points)], .data (c13.2.flatMap cel84)] [IX3 x3 c13.1 x16, ((!(decide (x16 < c8.1))) = true → (!(decide (x16 < c8.1))) = true), ((!(decide (x16 < c8.1))) = true → (!(decide (x16 < c8.1))) = true), (((!(decide (x16 < c8.1))) && (decide (c13.1 > 0))) = true → ((!(decide (x16 < c8.1))) && (decide (c13.1 > 0))) = true), (((!(decide (x16 < c8.1))) && (decide (c13.1 > 0))) = true → ((!(decide (x16 < c8.1))) && (decide (c13.1 > 0))) = true), (((!(decide (x16 < c8.1))) && (decide (c13.1 > 0))) = true → ((!(decide (x16 < c8.1))) && (decide (c13.1 > 0))) = true), (((!(decide (x16 < c8.1))) && (decide (c13.1 > 0))) = true → IX3 x3 (w64 (c13.1 - 1)) x17), (((!(decide (x16 < c8.1))) && (decide (c13.1 > 0))) = true → ((!(decide (x16 < c8.1))) && (decide (c13.1 > 0))) = true), (((!(decide (x16 < c8.1))) && (decide (c13.1 > 0))) = true → ((!(decide (x16 < c8.1))) && (decide (c13.1 > 0))) = true), (((!(decide (x16 < c8.1))) && (decide (c13.1 > 0))) = true → ((!(decide (x16 < c8.1))) && (decide (c13.1 > 0))) = true), ((!(decide (x16 < c8.1))) = true → (!(decide (x16 < c8.1))) = true), ((!(decide (x16 < c8.1))) = true → (decide (c13.1 > 0)) = true → ((!(decide (x16 < c8.1))) && (decide (c13.1 > 0))) = true), ((decide (x16 < c8.1)) = false → (!(decide (x16 < c8.1))) = true)] (by kernel_rfl) (And.intro (idxOk cel3_len hx16) (And.intro (id) (And.intro (id) (And.intro (id) (And.intro (id) (And.intro (id) (And.intro ((fun hg => idxOk cel3_len (optG_of hx17 hg))) (And.intro (id) (And.intro (id) (And.intro (id) (And.intro (id) (And.intro ((fun hg h1 => by first | exact hg | exact h1 | (rw [hg, h1]; rfl) | (simp only [hg, h1, Bool.not_true, Bool.not_false, Bool.and_self, Bool.true_and, Bool.and_true]; done) | (simp only [Bool.and_eq_true] at hg; simp only [hg, h1, Bool.not_true, Bool.not_false, Bool.and_self, Bool.true_and, Bool.and_true]; done) | simp_all)) (not_of))))))))))))) ?_
              refine awp_cond (b := (cond (decide (x16 < c8.1)) true (cond (decide (c13.1 > 0)) (decide (x17 ≥ c8.1)) false))) (by kernel_rfl) (fun hb18 => ?_) (fun hb18 => ?_)
              · rw [if_pos hb18] at h
                refine awp_exit ?_
                show awp _ _ _ _ _ _ _ _
                refine awp_region (T' := [(7, .d (L3 x3)), (8, .sl 2 1 0 c13.2.length), (9, vi c8.1), (10, vi (w64 (c13.1 + 1)))]) (H' := [.cells [vi p_r.Steep, .d (L58 p_r.Points)], .data (c13.2.flatMap cel84)]) (ps := []) tt_ok (ks := [7, 8, 9, 10]) (hs := []) (by kernel_rfl) trivial ?_
                exact awpN_wk 2 [7, 8, 9, 10] (by kernel_rfl) _ _ (by kernel_rfl) (by kernel_rfl) (hrn14 ((w64 (c13.1 + 1)), c13.2) h)
              · rw [if_neg (ntrue hb18)] at h
                refine awp_skip ?_
                show awp _ _ _ _ _ _ _ _
                refine awp_sreg tt_ok (ks := [7, 8, 9, 10, 11]) (hs := []) [(7, .d (L3 x3)), (8, .sl 2 1 0 c13.2.length), (9, vi c8.1), (10, vi c13.1), (11, vi c13.1)] [.cells [vi p_r.Steep, .d (L58 p_r.Points)], .data (c13.2.flatMap cel84)] [] (by kernel_rfl) trivial ?_
                refine awp_seq ?_
                obtain ⟨o19, ho19, h⟩ := Option.bind_eq_some_iff.1 h
                refine awp_cut1 (OutQ (fun (ro19 : (List S_api_CvPass) × Int) => [(4, .d (L84 ro19.1)), (5, vi ro19.2)]) (fun (ro19 : (List S_api_CvPass) × Int) => []) (fun (so19 : Int) => [(7, .d (L3 x3)), (8, .sl 2 1 0 c13.2.length), (9, vi c8.1), (10, vi c13.1), (11, vi so19)]) (fun (so19 : Int) => [.cells [vi p_r.Steep, .d (L58 p_r.Points)], .data (c13.2.flatMap cel84)]) o19) ?_ ?_
                · clear h
                  have h := ho19
                  clear ho19
                  refine awp_selQ ?_
                  refine awp_wk 2 [7, 8, 9, 10, 11] (by kernel_rfl) [(7, .d (L3 x3)), (8, .sl 2 1 0 c13.2.length), (9, vi c8.1), (10, vi c13.1), (11, vi c13.1)] [.cells [vi p_r.Steep, .d (L58 p_r.Points)], .data (c13.2.flatMap cel84)] (by kernel_rfl) (by kernel_rfl) ?_
                  refine awp_block ?_
                  refine awp_loop (n := fuel) ?_
                  refine awpN_ind (fun n (c20 : Int) => F31L3 x3 c8 n c20) o19 (fun (c20 : Int) => [(7, .d (L3 x3)), (8, .sl 2 1 0 c13.2.length), (9, vi c8.1), (10, vi c13.1), (11, vi c20)]) (fun (c20 : Int) => [.cells [vi p_r.Steep, .d (L58 p_r.Points)], .data (c13.2.flatMap cel84)]) (fun _ => rfl) ?_ fuel c13.1 h
                  clear h
                  intro n21 c20 h hrn21
                  change F31L3 x3 c8 (n21 + 1) c20 = some o19 at h
                  rw [F31L3] at h
                  refine awp_seq ?_
                  obtain ⟨x22, hx22, h⟩ := Option.bind_eq_some_iff.1 h
                  refine awp_sreg tt_ok (ks := [7, 8, 9, 10, 11, 70]) (hs := [.no, .no, .no, .no, .no, .no, .no, .no, .no, .cells (cel3 x22)]) [(7, .d (L3 x3)), (8, .sl 2 1 0 c13.2.length), (9, vi c8.1), (10, vi c13.1), (11, vi c20), (70, vb (cond (decide ((w64 (c20 + 1)) < (x3.length : Int))) (decide (x22 ≥ c8.1)) false))] [.cells [vi p_r.Steep, .d (L58 p_r.Points)], .data (c13.2.flatMap cel84)] [((decide ((w64 (c20 + 1)) < (x3.length : Int))) = true → (decide ((w64 (c20 + 1)) < (x3.length : Int))) = true), ((decide ((w64 (c20 + 1)) < (x3.length : Int))) = true → (decide ((w64 (c20 + 1)) < (x3.length : Int))) = true), ((decide ((w64 (c20 + 1)) < (x3.length : Int))) = true → (decide ((w64 (c20 + 1)) < (x3.length : Int))) = true), ((decide ((w64 (c20 + 1)) < (x3.length : Int))) = true → IX3 x3 (w64 (c20 + 1)) x22), ((decide ((w64 (c20 + 1)) < (x3.length : Int))) = true → (decide ((w64 (c20 + 1)) < (x3.length : Int))) = true), ((decide ((w64 (c20 + 1)) < (x3.length : Int))) = true → (decide ((w64 (c20 + 1)) < (x3.length : Int))) = true), ((decide ((w64 (c20 + 1)) < (x3.length : Int))) = true → (decide ((w64 (c20 + 1)) < (x3.length : Int))) = true), ((decide ((w64 (c20 + 1)) < (x3.length : Int))) = true → (decide ((w64 (c20 + 1)) < (x3.length : Int))) = true)] (by kernel_rfl) (And.intro (id) (And.intro (id) (And.intro (id) (And.intro ((fun hg => idxOk cel3_len (optG_of hx22 hg))) (And.intro (id) (And.intro (id) (And.intro (id) (id)))))))) ?_
                  refine awp_cond (b := (cond (decide ((w64 (c20 + 1)) < (x3.length : Int))) (decide (x22 ≥ c8.1)) false)) (by kernel_rfl) (fun hb23 => ?_) (fun hb23 => ?_)
                  · rw [if_pos hb23] at h
                    refine awp_skip ?_
                    show awp _ _ _ _ _ _ _ _
                    refine awp_block ?_
                    refine awp_region (T' := [(7, .d (L3 x3)), (8, .sl 2 1 0 c13.2.length), (9, vi c8.1), (10, vi c13.1), (11, vi (w64 (c20 + 1)))]) (H' := [.cells [vi p_r.Steep, .d (L58 p_r.Points)], .data (c13.2.flatMap cel84)]) (ps := []) tt_ok (ks := [7, 8, 9, 10, 11]) (hs := []) (by kernel_rfl) trivial ?_
                    exact awpN_wk 2 [7, 8, 9, 10, 11] (by kernel_rfl) _ _ (by kernel_rfl) (by kernel_rfl) (hrn21 (w64 (c20 + 1)) h)
                  · rw [if_neg (ntrue hb23)] at h
                    refine awp_exit ?_
                    obtain rfl := Option.some.inj h
                    exact Sel.mk [0, 1] [7, 8, 9, 10, 11] (by kernel_rfl) (by kernel_rfl) (by kernel_rfl) OutQ.norm
                · intro e T H hq
                  cases o19 with
                  | inl ro19 =>
                    obtain ⟨rfl, rfl, rfl⟩ := hq
                    rw [outK_inl] at h
                    obtain rfl := Option.some.inj h
                    exact Sel.mk [] [4, 5] (by kernel_rfl) (by kernel_rfl) (by kernel_rfl) OutQ.ret
                  | inr so19 =>
                    obtain ⟨rfl, rfl, rfl⟩ := hq
                    rw [outK_inr] at h
                    show awp _ _ _ _ _ _ _ _
                    obtain ⟨x24, hx24, h⟩ := Option.bind_eq_some_iff.1 h
                    refine awp_region (T' := [(7, .d (L3 x3)), (8, .sl 2 1 0 (c13.2 ++ ([(⟨c13.1, so19⟩ : S_api_CvPass)] : List S_api_CvPass)).length), (9, vi c8.1), (10, vi c13.1)]) (H' := [.cells [vi p_r.Steep, .d (L58 p_r.Points)], .data ((c13.2 ++ ([(⟨c13.1, so19⟩ : S_api_CvPass)] : List S_api_CvPass)).flatMap cel84)]) (ps := [AppendOk ((c13.2.flatMap cel84).map .d) c13.2.length ([(⟨c13.1, so19⟩ : S_api_CvPass)] : List S_api_CvPass).length (c13.2 ++ ([(⟨c13.1, so19⟩ : S_api_CvPass)] : List S_api_CvPass)).length 2 16 (([(⟨c13.1, so19⟩ : S_api_CvPass)] : List S_api_CvPass).flatMap cel84) ((c13.2 ++ ([(⟨c13.1, so19⟩ : S_api_CvPass)] : List S_api_CvPass)).flatMap cel84)]) tt_ok (ks := [7, 8, 9, 10]) (hs := [.no, .no, .no, .no, .no, .list (c13.2 ++ ([(⟨c13.1, so19⟩ : S_api_CvPass)] : List S_api_CvPass)).length ((c13.2 ++ ([(⟨c13.1, so19⟩ : S_api_CvPass)] : List S_api_CvPass)).flatMap cel84)]) (by kernel_rfl) (appendOk cel84_len (need_of hx24)) ?_
                    show awp _ _ _ _ _ _ _ _
                    refine awp_region (T' := [(7, .d (L3 x3)), (8, .sl 2 1 0 (c13.2 ++ ([(⟨c13.1, so19⟩ : S_api_CvPass)] : List S_api_CvPass)).length), (9, vi c8.1), (10, vi (w64 (c13.1 + 1)))]) (H' := [.cells [vi p_r.Steep, .d (L58 p_r.Points)], .data ((c13.2 ++ ([(⟨c13.1, so19⟩ : S_api_CvPass)] : List S_api_CvPass)).flatMap cel84)]) (ps := []) tt_ok (ks := [7, 8, 9, 10]) (hs := []) (by kernel_rfl) trivial ?_
                    exact awpN_wk 2 [7, 8, 9, 10] (by kernel_rfl) _ _ (by kernel_rfl) (by kernel_rfl) (hrn14 ((w64 (c13.1 + 1)), (c13.2 ++ ([(⟨c13.1, so19⟩ : S_api_CvPass)] : List S_api_CvPass))) h)
            · rw [if_neg (ntrue hb15)] at h
              refine awp_exit ?_
              obtain rfl := Option.some.inj h
              exact Sel.mk [0, 1] [7, 8, 9] (by kernel_rfl) (by kernel_rfl) (by kernel_rfl) OutQ.norm
          · intro e T H hq
            cases o12 with
            | inl ro12 =>
              obtain ⟨rfl, rfl, rfl⟩ := hq
              rw [outK_inl] at h
              obtain rfl := Option.some.inj h
              exact Sel.mk [] [4, 5] (by kernel_rfl) (by kernel_rfl) (by kernel_rfl) OutQ.ret
            | inr so12 =>
              obtain ⟨rfl, rfl, rfl⟩ := hq
              rw [outK_inr] at h
              show awp _ _ _ _ _ _ _ _
              refine awp_region (T' := [(7, .d (L3 x3)), (8, .sl 2 1 0 so12.length), (9, vi (w64 (c8.1 + 1)))]) (H' := [.cells [vi p_r.Steep, .d (L58 p_r.Points)], .data (so12.flatMap cel84)]) (ps := []) tt_ok (ks := [7, 8, 9]) (hs := []) (by kernel_rfl) trivial ?_
              exact awpN_wk 2 [7, 8, 9] (by kernel_rfl) _ _ (by kernel_rfl) (by kernel_rfl) (hrn9 ((w64 (c8.1 + 1)), so12) h)
        · rw [if_neg (ntrue hb11)] at h
          refine awp_exit ?_
          obtain rfl := Option.some.inj h
          exact Sel.mk [0, 1] [8] (by kernel_rfl) (by kernel_rfl) (by kernel_rfl) OutQ.norm
      · intro e T H hq
        cases o7 with
        | inl ro7 =>
          obtain ⟨rfl, rfl, rfl⟩ := hq
          rw [outK_inl] at h
          obtain rfl := Option.some.inj h
          exact main_ret (by kernel_rfl)
        | inr so7 =>
          obtain ⟨rfl, rfl, rfl⟩ := hq
          rw [outK_inr] at h
          show awp _ _ _ _ _ _ _ _
          refine awp_sreg tt_ok (ks := [4, 5]) (hs := []) [(4, .sl 2 1 0 so7.length), (5, vi 0)] [.cells [vi p_r.Steep, .d (L58 p_r.Points)], .data (so7.flatMap cel84)] [] (by kernel_rfl) trivial ?_
          obtain rfl := Option.some.inj h
          refine awp_wk 2 [4, 5] (by kernel_rfl) [(4, .sl 2 1 0 so7.length), (5, vi 0)] [.cells [vi p_r.Steep, .d (L58 p_r.Points)], .data (so7.flatMap cel84)] (by kernel_rfl) (by kernel_rfl) ?_
          refine awp_freeze 4 1 (so7.flatMap cel84) (.sl 2 1 0 so7.length) (.d (L84 so7)) _ _ (ps := [(so7.flatMap cel84).length = so7.length * 2]) (by kernel_rfl) (by kernel_rfl) (by kernel_rfl) (flatMap_len cel84 2 cel84_len so7) rfl rfl ?_
          refine awp_wk 2 [4, 5] (by kernel_rfl) [(4, .d (L84 so7)), (5, vi 0)] [.cells [vi p_r.Steep, .d (L58 p_r.Points)], .data (([] : List S_api_CvPass).flatMap cel84)] (by kernel_rfl) (by kernel_rfl) ?_
          exact awp_ret (main_ret (by kernel_rfl))

set_option maxRecDepth 100000 in
theorem ct63 {fuel : Nat}  {p_r : S_api_CvRow} {l : (List S_api_CvPass)} {res : (List Int)} (h : F63 fuel p_r l = some res) : PCall Try.prog 63 [(.agg [(di p_r.Steep), (L58 p_r.Points)]), (L84 l)] (.d (L3 res)) := by
  refine PCall.of_awp tt_ok (N := 39) Try.func63 rfl (by kernel_rfl) rfl (Nat.le_of_ble_eq_true rfl) rfl ?_
  unfold F63 at h
  refine awp_sreg tt_ok (ks := [1, 2]) (hs := []) [(1, .d (L84 l)), (2, .ref 0 0)] [.cells [vi p_r.Steep, .d (L58 p_r.Points)]] [] (by kernel_rfl) trivial ?_
  obtain ⟨x1, hx1, h⟩ := Option.bind_eq_some_iff.1 h
  refine awp_sreg tt_ok (ks := [1, 5]) (hs := [.no, .no, .no, .list (List.replicate (p_r.Points.length : Int).toNat (0 : Int)).length ((List.replicate (p_r.Points.length : Int).toNat (0 : Int)).flatMap cel3)]) [(1, .d (L84 l)), (5, .sl 1 1 0 (List.replicate (p_r.Points.length : Int).toNat (0 : Int)).length)] [.cells [vi p_r.Steep, .d (L58 p_r.Points)], .data ((List.replicate (p_r.Points.length : Int).toNat (0 : Int)).flatMap cel3)] [MakeOk (p_r.Points.length : Int) (p_r.Points.length : Int) (List.replicate (p_r.Points.length : Int).toNat (0 : Int)).length 8 [.int .i64 0] ((List.replicate (p_r.Points.length : Int).toNat (0 : Int)).flatMap cel3)] (by kernel_rfl) (makeOk rfl (need_of hx1)) ?_
  refine awp_seq ?_
  refine awp_sreg tt_ok (ks := [1, 5, 6]) (hs := []) [(1, .d (L84 l)), (5, .sl 1 1 0 (List.replicate (p_r.Points.length : Int).toNat (0 : Int)).length), (6, vi 0)] [.cells [vi p_r.Steep, .d (L58 p_r.Points)], .data ((List.replicate (p_r.Points.length : Int).toNat (0 : Int)).flatMap cel3)] [] (by kernel_rfl) trivial ?_
  obtain ⟨o2, ho2, h⟩ := Option.bind_eq_some_iff.1 h
  refine awp_cut1 (OutQ (fun (ro2 : (List Int)) => [(4, .d (L3 ro2))]) (fun (ro2 : (List Int)) => []) (fun (so2 : (List Int)) => [(5, .sl 1 1 0 so2.length)]) (fun (so2 : (List Int)) => [.cells [vi p_r.Steep, .d (L58 p_r.Points)], .data (so2.flatMap cel3)]) o2) ?_ ?_
  · clear h
    have h := ho2
    clear ho2
    refine awp_selQ ?_
    refine awp_wk 2 [1, 5, 6] (by kernel_rfl) [(1, .d (L84 l)), (5, .sl 1 1 0 (List.replicate (p_r.Points.length : Int).toNat (0 : Int)).length), (6, vi 0)] [.cells [vi p_r.Steep, .d (L58 p_r.Points)], .data ((List.replicate (p_r.Points.length : Int).toNat (0 : Int)).flatMap cel3)] (by kernel_rfl) (by kernel_rfl) ?_
    refine awp_block ?_
    refine awp_loop (n := fuel) ?_
    refine awpN_ind (fun n (c3 : Int × (List Int)) => F63L1 fuel l n c3) o2 (fun (c3 : Int × (List Int)) => [(1, .d (L84 l)), (5, .sl 1 1 0 c3.2.length), (6, vi c3.1)]) (fun (c3 : Int × (List Int)) => [.cells [vi p_r.Steep, .d (L58 p_r.Points)], .data (c3.2.flatMap cel3)]) (fun _ => rfl) ?_ fuel (0, (List.replicate (p_r.Points.length : Int).toNat (0 : Int))) h
    clear h
    intro n4 c3 h hrn4
    change F63L1 fuel l (n4 + 1) c3 = some o2 at h
    rw [F63L1] at h
    refine awp_seq ?_
    refine awp_sreg tt_ok (ks := [1, 5, 6, 15]) (hs := []) [(1, .d (L84 l)), (5, .sl 1 1 0 c3.2.length), (6, vi c3.1), (15, vb (decide (c3.1 < (l.length : Int))))] [.cells [vi p_r.Steep, .d (L58 p_r.Points)], .data (c3.2.flatMap cel3)] [] (by kernel_rfl) trivial ?_
    refine awp_cond (b := (decide (c3.1 < (l.length : Int)))) (by kernel_rfl) (fun hb5 => ?_) (fun hb5 => ?_)
    · rw [if_pos hb5] at h
      refine awp_skip ?_
      show awp _ _ _ _ _ _ _ _
      refine awp_seq ?_
      refine awp_block ?_
      obtain ⟨x6, hx6, h⟩ := Option.bind_eq_some_iff.1 h
      refine awp_sreg tt_ok (ks := [1, 5, 6, 7]) (hs := [.no, .no, .cells (cel84 x6)]) [(1, .d (L84 l)), (5, .sl 1 1 0 c3.2.length), (6, vi c3.1), (7, vi x6.From)] [.cells [vi p_r.Steep, .d (L58 p_r.Points)], .data (c3.2.flatMap cel3)] [IX84 l c3.1 x6] (by kernel_rfl) (idxOk cel84_len hx6) ?_
      obtain ⟨o7, ho7, h⟩ := Option.bind_eq_some_iff.1 h
      refine awp_cut1 (OutQ (fun (ro7 : (List Int)) => [(4, .d (L3 ro7))]) (fun (ro7 : (List Int)) => []) (fun (so7 : (List Int)) => [(1, .d (L84 l)), (5, .sl 1 1 0 so7.length), (6, vi c3.1)]) (fun (so7 : (List Int)) => [.cells [vi p_r.Steep, .d (L58 p_r.Points)], .data (so7.flatMap cel3)]) o7) ?_ ?_
      · clear h
        have h := ho7
        clear ho7
        refine awp_selQ ?_
        refine awp_wk 2 [1, 5, 6, 7] (by kernel_rfl) [(1, .d (L84 l)), (5, .sl 1 1 0 c3.2.length), (6, vi c3.1), (7, vi x6.From)] [.cells [vi p_r.Steep, .d (L58 p_r.Points)], .data (c3.2.flatMap cel3)] (by kernel_rfl) (by kernel_rfl) ?_
        refine awp_block ?_
        refine awp_loop (n := fuel) ?_
        refine awpN_ind (fun n (c8 : Int × (List Int)) => F63L2 l c3 n c8) o7 (fun (c8 : Int × (List Int)) => [(1, .d (L84 l)), (5, .sl 1 1 0 c8.2.length), (6, vi c3.1), (7, vi c8.1)]) (fun (c8 : Int × (List Int)) => [.cells [vi p_r.Steep, .d (L58 p_r.Points)], .data (c8.2.flatMap cel3)]) (fun _ => rfl) ?_ fuel (x6.From, c3.2) h
        clear h
        intro n9 c8 h hrn9
        change F63L2 l c3 (n9 + 1) c8 = some o7 at h
        rw [F63L2] at h
        refine awp_seq ?_
        obtain ⟨x10, hx10, h⟩ := Option.bind_eq_some_iff.1 h
        refine awp_sreg tt_ok (ks := [1, 5, 6, 7, 29]) (hs := [.no, .no, .no, .cells (cel84 x10)]) [(1, .d (L84 l)), (5, .sl 1 1 0 c8.2.length), (6, vi c3.1), (7, vi c8.1), (29, vb (decide (c8.1 ≤ x10.To)))] [.cells [vi p_r.Steep, .d (L58 p_r.Points)], .data (c8.2.flatMap cel3)] [IX84 l c3.1 x10] (by kernel_rfl) (idxOk cel84_len hx10) ?_
        refine awp_cond (b := (decide (c8.1 ≤ x10.To))) (by kernel_rfl) (fun hb11 => ?_) (fun hb11 => ?_)
        · rw [if_pos hb11] at h
          refine awp_skip ?_
          show awp _ _ _ _ _ _ _ _
          refine awp_seq ?_
          refine awp_block ?_
          obtain ⟨x12, hx12, h⟩ := Option.bind_eq_some_iff.1 h
          obtain ⟨x13, hx13, h⟩ := Option.bind_eq_some_iff.1 h
          refine awp_region (T' := [(1, .d (L84 l)), (5, .sl 1 1 0 c8.2.length), (6, vi c3.1), (7, vi c8.1)]) (H' := [.cells [vi p_r.Steep, .d (L58 p_r.Points)], .data ((c8.2.set c8.1.toNat (w64 (x12 + 1))).flatMap cel3)]) (ps := [(0 ≤ c8.1 ∧ c8.1 < (c8.2.length : Int)), LoadOk ((c8.2.flatMap cel3).map .d) (0 + c8.1.toNat * 1) 1 (([(di x12)] : List D).map .d), (0 ≤ c8.1 ∧ c8.1 < (c8.2.length : Int)), StoreOk ((c8.2.flatMap cel3).map .d) (0 + c8.1.toNat * 1) (([(di (w64 (x12 + 1)))] : List D).map .d) (((c8.2.set c8.1.toNat (w64 (x12 + 1))).flatMap cel3).map .d)]) tt_ok (ks := [1, 5, 6, 7]) (hs := [.no, .no, .no, .vals (([(di x12)] : List D).map .d), .no, .no, .cells ((c8.2.set c8.1.toNat (w64 (x12 + 1))).flatMap cel3)]) (by kernel_rfl) (And.intro (idx_bounds hx12) (And.intro (loadOk (j := 0) (es := ([(di x12)] : List D)) cel3_len hx12 rfl rfl rfl (Nat.le_of_ble_eq_true rfl)) (And.intro (idx_bounds hx13) (storeOk (j := 0) (us := ([(di (w64 (x12 + 1)))] : List D)) (y := (w64 (x12 + 1))) cel3_len hx13 rfl rfl (Nat.le_of_ble_eq_true rfl))))) ?_
          show awp _ _ _ _ _ _ _ _
          refine awp_region (T' := [(1, .d (L84 l)), (5, .sl 1 1 0 c8.2.length), (6, vi c3.1), (7, vi (w64 (c8.1 + 1)))]) (H' := [.cells [vi p_r.Steep, .d (L58 p_r.Points)], .data ((c8.2.set c8.1.toNat (w64 (x12 + 1))).flatMap cel3)]) (ps := []) tt_ok (ks := [1, 5, 6, 7]) (hs := []) (by kernel_rfl) trivial ?_
          exact awpN_wk 2 [1, 5, 6, 7] (by kernel_rfl) _ _ (by simp only [List.length_set]; kernel_rfl) (by kernel_rfl) (hrn9 ((w64 (c8.1 + 1)), (c8.2.set c8.1.toNat (w64 (x12 + 1)))) h)
        · rw [if_neg (ntrue hb11)] at h
          refine awp_exit ?_
          obtain rfl := Option.some.inj h
          exact Sel.mk [0, 1] [1, 5, 6] (by kernel_rfl) (by kernel_rfl) (by kernel_rfl) OutQ.norm
      · intro e T H hq
        cases o7 with
        | inl ro7 =>
          obtain ⟨rfl, rfl, rfl⟩ := hq
          rw [outK_inl] at h
          obtain rfl := Option.some.inj h
          exact Sel.mk [] [4] (by kernel_rfl) (by kernel_rfl) (by kernel_rfl) OutQ.ret
        | inr so7 =>
          obtain ⟨rfl, rfl, rfl⟩ := hq
          rw [outK_inr] at h
          show awp _ _ _ _ _ _ _ _
          refine awp_region (T' := [(1, .d (L84 l)), (5, .sl 1 1 0 so7.length), (6, vi (w64 (c3.1 + 1)))]) (H' := [.cells [vi p_r.Steep, .d (L58 p_r.Points)], .data (so7.flatMap cel3)]) (ps := []) tt_ok (ks := [1, 5, 6]) (hs := []) (by kernel_rfl) trivial ?_
          exact awpN_wk 2 [1, 5, 6] (by kernel_rfl) _ _ (by kernel_rfl) (by kernel_rfl) (hrn4 ((w64 (c3.1 + 1)), so7) h)
    · rw [if_neg (ntrue hb5)] at h
      refine awp_exit ?_
      obtain rfl := Option.some.inj h
      exact Sel.mk [0, 1] [5] (by kernel_rfl) (by kernel_rfl) (by kernel_rfl) OutQ.norm
  · intro e T H hq
    cases o2 with
    | inl ro2 =>
      obtain ⟨rfl, rfl, rfl⟩ := hq
      rw [outK_inl] at h
      obtain rfl := Option.some.inj h
      exact main_ret (by kernel_rfl)
    | inr so2 =>
      obtain ⟨rfl, rfl, rfl⟩ := hq
      rw [outK_inr] at h
      show awp _ _ _ _ _ _ _ _
      refine awp_sreg tt_ok (ks := [4]) (hs := []) [(4, .sl 1 1 0 so2.length)] [.cells [vi p_r.Steep, .d (L58 p_r.Points)], .data (so2.flatMap cel3)] [] (by kernel_rfl) trivial ?_
      obtain rfl := Option.some.inj h
      refine awp_wk 2 [4] (by kernel_rfl) [(4, .sl 1 1 0 so2.length)] [.cells [vi p_r.Steep, .d (L58 p_r.Points)], .data (so2.flatMap cel3)] (by kernel_rfl) (by kernel_rfl) ?_
      refine awp_freeze 4 1 (so2.flatMap cel3) (.sl 1 1 0 so2.length) (.d (L3 so2)) _ _ (ps := [(so2.flatMap cel3).length = so2.length * 1]) (by kernel_rfl) (by kernel_rfl) (by kernel_rfl) (flatMap_len cel3 1 cel3_len so2) rfl rfl ?_
      refine awp_wk 2 [4] (by kernel_rfl) [(4, .d (L3 so2))] [.cells [vi p_r.Steep, .d (L58 p_r.Points)], .data (([] : List Int).flatMap cel3)] (by kernel_rfl) (by kernel_rfl) ?_
      exact awp_ret (main_ret (by kernel_rfl))

set_option maxRecDepth 100000 in
theorem ct34 {fuel : Nat}  {p_r : S_api_CvRow} {l : (List S_api_CvPass)} {res : (List Int) × Int} (h : F34 fuel p_r l = some res) : PCall Try.prog 34 [(.agg [(di p_r.Steep), (L58 p_r.Points)]), (L84 l)] (.tup [.d (L3 res.1), vi res.2]) := by
  refine PCall.of_awp tt_ok (N := 74) Try.func34 rfl (by kernel_rfl) rfl (Nat.le_of_ble_eq_true rfl) rfl ?_
  unfold F34 at h
  refine awp_sreg tt_ok (ks := [1, 2]) (hs := []) [(1, .d (L84 l)), (2, .ref 0 0)] [.cells [vi p_r.Steep, .d (L58 p_r.Points)]] [] (by kernel_rfl) trivial ?_
  obtain ⟨x1, hx1, h⟩ := Option.bind_eq_some_iff.1 h
  refine awp_sreg tt_ok (ks := [1, 2, 8]) (hs := [.no, .call [(.agg [(di p_r.Steep), (L58 p_r.Points)])] (.tup [vi x1.1, vi x1.2.1, vi x1.2.2])]) [(1, .d (L84 l)), (2, .ref 0 0), (8, vi x1.2.2)] [.cells [vi p_r.Steep, .d (L58 p_r.Points)]] [PCall Try.prog 17 [(.agg [(di p_r.Steep), (L58 p_r.Points)])] (.tup [vi x1.1, vi x1.2.1, vi x1.2.2])] (by kernel_rfl) (ct17 hx1) ?_
  refine awp_seq ?_
  refine awp_sreg tt_ok (ks := [1, 2, 8, 22]) (hs := []) [(1, .d (L84 l)), (2, .ref 0 0), (8, vi x1.2.2), (22, vb (cond (x1.2.2 == 0) (decide ((l.length : Int) > 60)) false))] [.cells [vi p_r.Steep, .d (L58 p_r.Points)]] [((x1.2.2 == 0) = true → (x1.2.2 == 0) = true), ((x1.2.2 == 0) = true → (x1.2.2 == 0) = true), ((x1.2.2 == 0) = true → (x1.2.2 == 0) = true)] (by kernel_rfl) (And.intro (id) (And.intro (id) (id))) ?_
  obtain ⟨o2, ho2, h⟩ := Option.bind_eq_some_iff.1 h
  refine awp_cut1 (OutQ (fun (ro2 : (List Int) × Int) => [(4, .d (L3 ro2.1)), (5, vi ro2.2)]) (fun (ro2 : (List Int) × Int) => []) (fun (so2 : Int) => [(1, .d (L84 l)), (2, .ref 0 0), (8, vi so2)]) (fun (so2 : Int) => [.cells [vi p_r.Steep, .d (L58 p_r.Points)]]) o2) ?_ ?_
  · clear h
    have h := ho2
    clear ho2
    refine awp_selQ ?_
    refine awp_cond (b := (cond (x1.2.2 == 0) (decide ((l.length : Int) > 60)) false)) (by kernel_rfl) (fun hb3 => ?_) (fun hb3 => ?_)
    · rw [if_pos hb3] at h
      refine awp_region (T' := [(1, .d (L84 l)), (2, .ref 0 0), (8, vi 3)]) (H' := [.cells [vi p_r.Steep, .d (L58 p_r.Points)]]) (ps := []) tt_ok (ks := [1, 2, 8]) (hs := []) (by kernel_rfl) trivial ?_
      obtain rfl := Option.some.inj h
      exact Sel.mk [0] [1, 2, 8] (by kernel_rfl) (by kernel_rfl) (by kernel_rfl) OutQ.norm
    · rw [if_neg (ntrue hb3)] at h
      refine awp_skip ?_
      obtain rfl := Option.some.inj h
      exact Sel.mk [0] [1, 2, 8] (by kernel_rfl) (by kernel_rfl) (by kernel_rfl) OutQ.norm
  · intro e T H hq
    cases o2 with
    | inl ro2 =>
      obtain ⟨rfl, rfl, rfl⟩ := hq
      rw [outK_inl] at h
      obtain rfl := Option.some.inj h
      exact main_ret (by kernel_rfl)
    | inr so2 =>
      obtain ⟨rfl, rfl, rfl⟩ := hq
      rw [outK_inr] at h
      show awp _ _ _ _ _ _ _ _
      refine awp_seq ?_
      refine awp_sreg tt_ok (ks := [1, 2, 8, 9]) (hs := []) [(1, .d (L84 l)), (2, .ref 0 0), (8, vi so2), (9, vi 0)] [.cells [vi p_r.Steep, .d (L58 p_r.Points)]] [] (by kernel_rfl) trivial ?_
      obtain ⟨o4, ho4, h⟩ := Option.bind_eq_some_iff.1 h
      refine awp_cut1 (OutQ (fun (ro4 : (List Int) × Int) => [(4, .d (L3 ro4.1)), (5, vi ro4.2)]) (fun (ro4 : (List Int) × Int) => []) (fun (so4 : Int) => [(1, .d (L84 l)), (2, .ref 0 0), (8, vi so4)]) (fun (so4 : Int) => [.cells [vi p_r.Steep, .d (L58 p_r.Points)]]) o4) ?_ ?_
      · clear h
        have h := ho4
        clear ho4
        refine awp_selQ ?_
        refine awp_wk 1 [1, 2, 8, 9] (by kernel_rfl) [(1, .d (L84 l)), (2, .ref 0 0), (8, vi so2), (9, vi 0)] [.cells [vi p_r.Steep, .d (L58 p_r.Points)]] (by kernel_rfl) (by kernel_rfl) ?_
        refine awp_block ?_
        refine awp_loop (n := fuel) ?_
        refine awpN_ind (fun n (c5 : Int × Int) => F34L1 p_r l n c5) o4 (fun (c5 : Int × Int) => [(1, .d (L84 l)), (2, .ref 0 0), (8, vi c5.1), (9, vi c5.2)]) (fun (c5 : Int × Int) => [.cells [vi p_r.Steep, .d (L58 p_r.Points)]]) (fun _ => rfl) ?_ fuel (so2, 0) h
        clear h
        intro n6 c5 h hrn6
        change F34L1 p_r l (n6 + 1) c5 = some o4 at h
        rw [F34L1] at h
        refine awp_seq ?_
        refine awp_sreg tt_ok (ks := [1, 2, 8, 9, 30]) (hs := []) [(1, .d (L84 l)), (2, .ref 0 0), (8, vi c5.1), (9, vi c5.2), (30, vb (cond (decide (c5.2 < (l.length : Int))) (c5.1 == 0) false))] [.cells [vi p_r.Steep, .d (L58 p_r.Points)]] [((decide (c5.2 < (l.length : Int))) = true → (decide (c5.2 < (l.length : Int))) = true), ((decide (c5.2 < (l.length : Int))) = true → (decide (c5.2 < (l.length : Int))) = true)] (by kernel_rfl) (And.intro (id) (id)) ?_
        refine awp_cond (b := (cond (decide (c5.2 < (l.length : Int))) (c5.1 == 0) false)) (by kernel_rfl) (fun hb7 => ?_) (fun hb7 => ?_)
        · rw [if_pos hb7] at h
          refine awp_skip ?_
          show awp _ _ _ _ _ _ _ _
          refine awp_seq ?_
          refine awp_block ?_
          obtain ⟨x8, hx8, h⟩ := Option.bind_eq_some_iff.1 h
          obtain ⟨x9, hx9, h⟩ := Option.bind_eq_some_iff.1 h
          obtain ⟨x10, hx10, h⟩ := Option.bind_eq_some_iff.1 h
          obtain ⟨x11, hx11, h⟩ := Option.bind_eq_some_iff.1 h
          refine awp_sdraw tt_ok mixed (ks := [1, 2, 8, 9, 56]) (hs := [.no, .no, .cells (cel84 x8), .no, .no, .no, .no, .no, .no, .call [(di x8.From), (di 0), (di (w64 ((p_r.Points.length : Int) - 1)))] (vb x9), .no, .no, .no, .no, .cells (cel84 x10), .no, .no, .no, .no, .no, .no, .call [(di x10.To), (di 0), (di (w64 ((p_r.Points.length : Int) - 1)))] (vb x11)]) 21 [1, 2, 8, 9, 44, 49, 53, 54, 55, 56] [(1, .d (L84 l)), (2, .ref 0 0), (8, vi c5.1), (9, vi c5.2), (56, vb (cond (!x9) true (!x11)))] [.cells [vi p_r.Steep, .d (L58 p_r.Points)]] [IX84 l c5.2 x8, PCall Try.prog 50 [(di x8.From), (di 0), (di (w64 ((p_r.Points.length : Int) - 1)))] (vb x9), ((!(!x9)) = true → (!(!x9)) = true), ((!(!x9)) = true → (!(!x9)) = true), ((!(!x9)) = true → IX84 l c5.2 x10), ((!(!x9)) = true → (!(!x9)) = true), ((!(!x9)) = true → (!(!x9)) = true), ((!(!x9)) = true → (!(!x9)) = true), ((!(!x9)) = true → (!(!x9)) = true), ((!(!x9)) = true → (!(!x9)) = true), ((!(!x9)) = true → (!(!x9)) = true), ((!(!x9)) = true → (!(!x9)) = true), ((!(!x9)) = true → PCall Try.prog 50 [(di x10.To), (di 0), (di (w64 ((p_r.Points.length : Int) - 1)))] (vb x11)), ((!(!x9)) = true → (!(!x9)) = true), ((!x9) = false → (!(!x9)) = true)] (by kernel_rfl) (And.intro (idxOk cel84_len hx8) (And.intro (ct50 hx9) (And.intro (id) (And.intro (id) (And.intro ((fun hg => idxOk cel84_len (optG_of hx10 hg))) (And.intro (id) (And.intro (id) (And.intro (id) (And.intro (id) (And.intro (id) (And.intro (id) (And.intro (id) (And.intro ((fun hg => ct50 (optG_of hx11 hg))) (And.intro (id) (not_of))))))))))))))) ?_
          refine awp_cond (b := (cond (!x9) true (!x11))) (by kernel_rfl) (fun hb12 => ?_) (fun hb12 => ?_)
          · rw [if_pos hb12] at h
            refine awp_region (T' := [(1, .d (L84 l)), (2, .ref 0 0), (8, vi 4), (9, vi c5.2)]) (H' := [.cells [vi p_r.Steep, .d (L58 p_r.Points)]]) (ps := []) tt_ok (ks := [1, 2, 8, 9]) (hs := []) (by kernel_rfl) trivial ?_
            show awp _ _ _ _ _ _ _ _
            refine awp_region (T' := [(1, .d (L84 l)), (2, .ref 0 0), (8, vi 4), (9, vi (w64 (c5.2 + 1)))]) (H' := [.cells [vi p_r.Steep, .d (L58 p_r.Points)]]) (ps := []) tt_ok (ks := [1, 2, 8, 9]) (hs := []) (by kernel_rfl) trivial ?_
            exact awpN_wk 1 [1, 2, 8, 9] (by kernel_rfl) _ _ (by kernel_rfl) (by kernel_rfl) (hrn6 (4, (w64 (c5.2 + 1))) h)
          · rw [if_neg (ntrue hb12)] at h
            obtain ⟨x13, hx13, h⟩ := Option.bind_eq_some_iff.1 h
            obtain ⟨x14, hx14, h⟩ := Option.bind_eq_some_iff.1 h
            refine awp_sdraw tt_ok mixed (ks := [1, 2, 8, 9, 67]) (hs := [.no, .no, .cells (cel84 x13), .no, .no, .no, .no, .cells (cel84 x14)]) 10 [1, 2, 8, 9, 61, 66, 67] [(1, .d (L84 l)), (2, .ref 0 0), (8, vi c5.1), (9, vi c5.2), (67, vb (decide (x13.From > x14.To)))] [.cells [vi p_r.Steep, .d (L58 p_r.Points)]] [IX84 l c5.2 x13, IX84 l c5.2 x14] (by kernel_rfl) (And.intro (idxOk cel84_len hx13) (idxOk cel84_len hx14)) ?_
            refine awp_cond (b := (decide (x13.From > x14.To))) (by kernel_rfl) (fun hb15 => ?_) (fun hb15 => ?_)
            · rw [if_pos hb15] at h
              refine awp_region (T' := [(1, .d (L84 l)), (2, .ref 0 0), (8, vi 2), (9, vi c5.2)]) (H' := [.cells [vi p_r.Steep, .d (L58 p_r.Points)]]) (ps := []) tt_ok (ks := [1, 2, 8, 9]) (hs := []) (by kernel_rfl) trivial ?_
              show awp _ _ _ _ _ _ _ _
              refine awp_region (T' := [(1, .d (L84 l)), (2, .ref 0 0), (8, vi 2), (9, vi (w64 (c5.2 + 1)))]) (H' := [.cells [vi p_r.Steep, .d (L58 p_r.Points)]]) (ps := []) tt_ok (ks := [1, 2, 8, 9]) (hs := []) (by kernel_rfl) trivial ?_
              exact awpN_wk 1 [1, 2, 8, 9] (by kernel_rfl) _ _ (by kernel_rfl) (by kernel_rfl) (hrn6 (2, (w64 (c5.2 + 1))) h)
            · rw [if_neg (ntrue hb15)] at h
              refine awp_skip ?_
              show awp _ _ _ _ _ _ _ _
              refine awp_region (T' := [(1, .d (L84 l)), (2, .ref 0 0), (8, vi c5.1), (9, vi (w64 (c5.2 + 1)))]) (H' := [.cells [vi p_r.Steep, .d (L58 p_r.Points)]]) (ps := []) tt_ok (ks := [1, 2, 8, 9]) (hs := []) (by kernel_rfl) trivial ?_
              exact awpN_wk 1 [1, 2, 8, 9] (by kernel_rfl) _ _ (by kernel_rfl) (by kernel_rfl) (hrn6 (c5.1, (w64 (c5.2 + 1))) h)
        · rw [if_neg (ntrue hb7)] at h
          refine awp_exit ?_
          obtain rfl := Option.some.inj h
          exact Sel.mk [0] [1, 2, 8] (by kernel_rfl) (by kernel_rfl) (by kernel_rfl) OutQ.norm
      · intro e T H hq
        cases o4 with
        | inl ro4 =>
          obtain ⟨rfl, rfl, rfl⟩ := hq
          rw [outK_inl] at h
          obtain rfl := Option.some.inj h
          exact main_ret (by kernel_rfl)
        | inr so4 =>
          obtain ⟨rfl, rfl, rfl⟩ := hq
          rw [outK_inr] at h
          show awp _ _ _ _ _ _ _ _
          refine awp_seq ?_
          refine awp_sreg tt_ok (ks := [1, 2, 8, 69]) (hs := []) [(1, .d (L84 l)), (2, .ref 0 0), (8, vi so4), (69, vb (so4 != 0))] [.cells [vi p_r.Steep, .d (L58 p_r.Points)]] [] (by kernel_rfl) trivial ?_
          refine awp_cond (b := (so4 != 0)) (by kernel_rfl) (fun hb16 => ?_) (fun hb16 => ?_)
          · rw [if_pos hb16] at h
            refine awp_sreg tt_ok (ks := [4, 5]) (hs := []) [(4, .d dnil), (5, vi so4)] [.cells [vi p_r.Steep, .d (L58 p_r.Points)]] [] (by kernel_rfl) trivial ?_
            obtain rfl := Option.some.inj h
            refine awp_wk 1 [4, 5] (by kernel_rfl) [(4, .d dnil), (5, vi so4)] [.cells [vi p_r.Steep, .d (L58 p_r.Points)]] (by kernel_rfl) (by kernel_rfl) ?_
            refine awp_laxT 4 _ (L3 ([] : List Int)) _ (by kernel_rfl) (.nil (e := 1)) rfl ?_
            refine awp_wk 1 [4, 5] (by kernel_rfl) [(4, .d (L3 ([] : List Int))), (5, vi so4)] [.cells [vi p_r.Steep, .d (L58 p_r.Points)]] (by kernel_rfl) (by kernel_rfl) ?_
            exact awp_ret (main_ret (by kernel_rfl))
          · rw [if_neg (ntrue hb16)] at h
            refine awp_skip ?_
            show awp _ _ _ _ _ _ _ _
            obtain ⟨x17, hx17, h⟩ := Option.bind_eq_some_iff.1 h
            refine awp_sreg tt_ok (ks := [4, 5]) (hs := [.no, .no, .call [(.agg [(di p_r.Steep), (L58 p_r.Points)]), (L84 l)] (.d (L3 x17))]) [(4, .d (L3 x17)), (5, vi 0)] [.cells [vi p_r.Steep, .d (L58 p_r.Points)]] [PCall Try.prog 63 [(.agg [(di p_r.Steep), (L58 p_r.Points)]), (L84 l)] (.d (L3 x17))] (by kernel_rfl) (ct63 hx17) ?_
            obtain rfl := Option.some.inj h
            refine awp_wk 1 [4, 5] (by kernel_rfl) [(4, .d (L3 x17)), (5, vi 0)] [.cells [vi p_r.Steep, .d (L58 p_r.Points)]] (by kernel_rfl) (by kernel_rfl) ?_
            exact awp_ret (main_ret (by kernel_rfl))

set_option maxRecDepth 100000 in
theorem ct4 {fuel : Nat}  {p_r : S_api_CvRow} {p_s : (List Int)} {passes : (List S_api_CvPass)} {res : Bool} (h : F4 fuel p_r p_s passes = some res) : PCall Try.prog 4 [(.agg [(di p_r.Steep), (L58 p_r.Points)]), (L3 p_s), (L84 passes)] (vb res) := by
  refine PCall.of_awp tt_ok (N := 110) Try.func4 rfl (by kernel_rfl) rfl (Nat.le_of_ble_eq_true rfl) rfl ?_
  unfold F4 at h
  refine awp_sreg tt_ok (ks := [1, 2, 3]) (hs := []) [(1, .d (L3 p_s)), (2, .d (L84 passes)), (3, .ref 0 0)] [.cells [vi p_r.Steep, .d (L58 p_r.Points)]] [] (by kernel_rfl) trivial ?_
  obtain ⟨x1, hx1, h⟩ := Option.bind_eq_some_iff.1 h
  refine awp_sreg tt_ok (ks := [1, 2, 3, 7, 8, 9]) (hs := [.no, .no, .call [(.agg [(di p_r.Steep), (L58 p_r.Points)]), (L3 p_s)] (.tup [vi x1.1, vi x1.2.1, vi x1.2.2])]) [(1, .d (L3 p_s)), (2, .d (L84 passes)), (3, .ref 0 0), (7, vi x1.1), (8, vi x1.2.1), (9, vi x1.2.2)] [.cells [vi p_r.Steep, .d (L58 p_r.Points)]] [PCall Try.prog 26 [(.agg [(di p_r.Steep), (L58 p_r.Points)]), (L3 p_s)] (.tup [vi x1.1, vi x1.2.1, vi x1.2.2])] (by kernel_rfl) (ct26 hx1) ?_
  obtain ⟨x2, hx2, h⟩ := Option.bind_eq_some_iff.1 h
  refine awp_sreg tt_ok (ks := [1, 2, 3, 7, 8, 9, 10, 11, 12]) (hs := [.no, .no, .call [(.agg [(di p_r.Steep), (L58 p_r.Points)]), (L3 p_s)] (.tup [vi x2.1, vi x2.2.1, vi x2.2.2])]) [(1, .d (L3 p_s)), (2, .d (L84 passes)), (3, .ref 0 0), (7, vi x1.1), (8, vi x1.2.1), (9, vi x1.2.2), (10, vi x2.1), (11, vi x2.2.1), (12, vi x2.2.2)] [.cells [vi p_r.Steep, .d (L58 p_r.Points)]] [PCall Try.prog 27 [(.agg [(di p_r.Steep), (L58 p_r.Points)]), (L3 p_s)] (.tup [vi x2.1, vi x2.2.1, vi x2.2.2])] (by kernel_rfl) (ct27 hx2) ?_
  refine awp_seq ?_
  refine awp_sreg tt_ok (ks := [1, 2, 3, 45]) (hs := []) [(1, .d (L3 p_s)), (2, .d (L84 passes)), (3, .ref 0 0), (45, vb (cond (cond (x1.1 != x2.1) true (x1.2.1 != x2.2.1)) true (x1.2.2 != x2.2.2)))] [.cells [vi p_r.Steep, .d (L58 p_r.Points)]] [((!(x1.1 != x2.1)) = true → (!(x1.1 != x2.1)) = true), ((!(x1.1 != x2.1)) = true → (!(x1.1 != x2.1)) = true), ((x1.1 != x2.1) = false → (!(x1.1 != x2.1)) = true), ((!(cond (x1.1 != x2.1) true (x1.2.1 != x2.2.1))) = true → (!(cond (x1.1 != x2.1) true (x1.2.1 != x2.2.1))) = true), ((!(cond (x1.1 != x2.1) true (x1.2.1 != x2.2.1))) = true → (!(cond (x1.1 != x2.1) true (x1.2.1 != x2.2.1))) = true), ((cond (x1.1 != x2.1) true (x1.2.1 != x2.2.1)) = false → (!(cond (x1.1 != x2.1) true (x1.2.1 != x2.2.1))) = true)] (by kernel_rfl) (And.intro (id) (And.intro (id) (And.intro (not_of) (And.intro (id) (And.intro (id) (not_of)))))) ?_
  refine awp_cond (b := (cond (cond (x1.1 != x2.1) true (x1.2.1 != x2.2.1)) true (x1.2.2 != x2.2.2))) (by kernel_rfl) (fun hb3 => ?_) (fun hb3 => ?_)
  · rw [if_pos hb3] at h
    refine awp_sreg tt_ok (ks := [6]) (hs := []) [(6, vb false)] [.cells [vi p_r.Steep, .d (L58 p_r.Points)]] [] (by kernel_rfl) trivial ?_
    obtain rfl := Option.some.inj h
    refine awp_wk 1 [6] (by kernel_rfl) [(6, vb false)] [.cells [vi p_r.Steep, .d (L58 p_r.Points)]] (by kernel_rfl) (by kernel_rfl) ?_
    exact awp_ret (main_ret (by kernel_rfl))
  · rw [if_neg (ntrue hb3)] at h
    refine awp_skip ?_
    show awp _ _ _ _ _ _ _ _
    obtain ⟨x4, hx4, h⟩ := Option.bind_eq_some_iff.1 h
    refine awp_sreg tt_ok (ks := [1, 2, 3, 9, 13]) (hs := [.no, .no, .call [(.agg [(di p_r.Steep), (L58 p_r.Points)]), (L3 p_s)] (.tup [vi x4.1, vi x4.2])]) [(1, .d (L3 p_s)), (2, .d (L84 passes)), (3, .ref 0 0), (9, vi x4.2), (13, vi x4.1)] [.cells [vi p_r.Steep, .d (L58 p_r.Points)]] [PCall Try.prog 28 [(.agg [(di p_r.Steep), (L58 p_r.Points)]), (L3 p_s)] (.tup [vi x4.1, vi x4.2])] (by kernel_rfl) (ct28 hx4) ?_
    obtain ⟨x5, hx5, h⟩ := Option.bind_eq_some_iff.1 h
    refine awp_sreg tt_ok (ks := [1, 2, 3, 9, 12, 13, 14]) (hs := [.no, .no, .call [(.agg [(di p_r.Steep), (L58 p_r.Points)]), (L3 p_s)] (.tup [vi x5.1, vi x5.2])]) [(1, .d (L3 p_s)), (2, .d (L84 passes)), (3, .ref 0 0), (9, vi x4.2), (12, vi x5.2), (13, vi x4.1), (14, vi x5.1)] [.cells [vi p_r.Steep, .d (L58 p_r.Points)]] [PCall Try.prog 29 [(.agg [(di p_r.Steep), (L58 p_r.Points)]), (L3 p_s)] (.tup [vi x5.1, vi x5.2])] (by kernel_rfl) (ct29 hx5) ?_
    refine awp_seq ?_
    refine awp_sreg tt_ok (ks := [1, 2, 3, 65]) (hs := []) [(1, .d (L3 p_s)), (2, .d (L84 passes)), (3, .ref 0 0), (65, vb (cond (x4.1 != x5.1) true (x4.2 != x5.2)))] [.cells [vi p_r.Steep, .d (L58 p_r.Points)]] [((!(x4.1 != x5.1)) = true → (!(x4.1 != x5.1)) = true), ((!(x4.1 != x5.1)) = true → (!(x4.1 != x5.1)) = true), ((x4.1 != x5.1) = false → (!(x4.1 != x5.1)) = true)] (by kernel_rfl) (And.intro (id) (And.intro (id) (not_of))) ?_
    refine awp_cond (b := (cond (x4.1 != x5.1) true (x4.2 != x5.2))) (by kernel_rfl) (fun hb6 => ?_) (fun hb6 => ?_)
    · rw [if_pos hb6] at h
      refine awp_sreg tt_ok (ks := [6]) (hs := []) [(6, vb false)] [.cells [vi p_r.Steep, .d (L58 p_r.Points)]] [] (by kernel_rfl) trivial ?_
      obtain rfl := Option.some.inj h
      refine awp_wk 1 [6] (by kernel_rfl) [(6, vb false)] [.cells [vi p_r.Steep, .d (L58 p_r.Points)]] (by kernel_rfl) (by kernel_rfl) ?_
      exact awp_ret (main_ret (by kernel_rfl))
    · rw [if_neg (ntrue hb6)] at h
      refine awp_skip ?_
      show awp _ _ _ _ _ _ _ _
      obtain ⟨x7, hx7, h⟩ := Option.bind_eq_some_iff.1 h
      refine awp_sreg tt_ok (ks := [1, 2, 3, 9, 15]) (hs := [.no, .no, .call [(.agg [(di p_r.Steep), (L58 p_r.Points)]), (L3 p_s)] (.tup [.d (L84 x7.1), vi x7.2])]) [(1, .d (L3 p_s)), (2, .d (L84 passes)), (3, .ref 0 0), (9, vi x7.2), (15, .d (L84 x7.1))] [.cells [vi p_r.Steep, .d (L58 p_r.Points)]] [PCall Try.prog 30 [(.agg [(di p_r.Steep), (L58 p_r.Points)]), (L3 p_s)] (.tup [.d (L84 x7.1), vi x7.2])] (by kernel_rfl) (ct30 hx7) ?_
      obtain ⟨x8, hx8, h⟩ := Option.bind_eq_some_iff.1 h
      refine awp_sreg tt_ok (ks := [2, 3, 9, 12, 15, 16]) (hs := [.no, .no, .call [(.agg [(di p_r.Steep), (L58 p_r.Points)]), (L3 p_s)] (.tup [.d (L84 x8.1), vi x8.2])]) [(2, .d (L84 passes)), (3, .ref 0 0), (9, vi x7.2), (12, vi x8.2), (15, .d (L84 x7.1)), (16, .d (L84 x8.1))] [.cells [vi p_r.Steep, .d (L58 p_r.Points)]] [PCall Try.prog 31 [(.agg [(di p_r.Steep), (L58 p_r.Points)]), (L3 p_s)] (.tup [.d (L84 x8.1), vi x8.2])] (by kernel_rfl) (ct31 hx8) ?_
      refine awp_seq ?_
      obtain ⟨x9, hx9, h⟩ := Option.bind_eq_some_iff.1 h
      refine awp_sreg tt_ok (ks := [2, 3, 86]) (hs := [.no, .no, .call [(L84 x7.1), (L84 x8.1)] (vb x9)]) [(2, .d (L84 passes)), (3, .ref 0 0), (86, vb (cond (!x9) true (x7.2 != x8.2)))] [.cells [vi p_r.Steep, .d (L58 p_r.Points)]] [PCall Try.prog 32 [(L84 x7.1), (L84 x8.1)] (vb x9), ((!(!x9)) = true → (!(!x9)) = true), ((!(!x9)) = true → (!(!x9)) = true), ((!x9) = false → (!(!x9)) = true)] (by kernel_rfl) (And.intro (ct32 hx9) (And.intro (id) (And.intro (id) (not_of)))) ?_
      refine awp_cond (b := (cond (!x9) true (x7.2 != x8.2))) (by kernel_rfl) (fun hb10 => ?_) (fun hb10 => ?_)
      · rw [if_pos hb10] at h
        refine awp_sreg tt_ok (ks := [6]) (hs := []) [(6, vb false)] [.cells [vi p_r.Steep, .d (L58 p_r.Points)]] [] (by kernel_rfl) trivial ?_
        obtain rfl := Option.some.inj h
        refine awp_wk 1 [6] (by kernel_rfl) [(6, vb false)] [.cells [vi p_r.Steep, .d (L58 p_r.Points)]] (by kernel_rfl) (by kernel_rfl) ?_
        exact awp_ret (main_ret (by kernel_rfl))
      · rw [if_neg (ntrue hb10)] at h
        refine awp_skip ?_
        show awp _ _ _ _ _ _ _ _
        obtain ⟨x11, hx11, h⟩ := Option.bind_eq_some_iff.1 h
        refine awp_sreg tt_ok (ks := [2, 3, 9, 17]) (hs := [.no, .no, .call [(.agg [(di p_r.Steep), (L58 p_r.Points)]), (L84 passes)] (.tup [.d (L3 x11.1), vi x11.2])]) [(2, .d (L84 passes)), (3, .ref 0 0), (9, vi x11.2), (17, .d (L3 x11.1))] [.cells [vi p_r.Steep, .d (L58 p_r.Points)]] [PCall Try.prog 33 [(.agg [(di p_r.Steep), (L58 p_r.Points)]), (L84 passes)] (.tup [.d (L3 x11.1), vi x11.2])] (by kernel_rfl) (ct33 hx11) ?_
        obtain ⟨x12, hx12, h⟩ := Option.bind_eq_some_iff.1 h
        refine awp_sreg tt_ok (ks := [9, 12, 17, 18]) (hs := [.no, .no, .call [(.agg [(di p_r.Steep), (L58 p_r.Points)]), (L84 passes)] (.tup [.d (L3 x12.1), vi x12.2])]) [(9, vi x11.2), (12, vi x12.2), (17, .d (L3 x11.1)), (18, .d (L3 x12.1))] [.cells [vi p_r.Steep, .d (L58 p_r.Points)]] [PCall Try.prog 34 [(.agg [(di p_r.Steep), (L58 p_r.Points)]), (L84 passes)] (.tup [.d (L3 x12.1), vi x12.2])] (by kernel_rfl) (ct34 hx12) ?_
        obtain ⟨x13, hx13, h⟩ := Option.bind_eq_some_iff.1 h
        obtain ⟨x14, hx14, h⟩ := Option.bind_eq_some_iff.1 h
        refine awp_sreg tt_ok (ks := [6]) (hs := [.no, .no, .call [(L3 x11.1), (L3 x12.1)] (vb x13), .no, .no, .no, .no, .no, .no, .call [] (vb x14)]) [(6, vb (cond (cond x13 (x11.2 == x12.2) false) x14 false))] [.cells [vi p_r.Steep, .d (L58 p_r.Points)]] [PCall Try.prog 35 [(L3 x11.1), (L3 x12.1)] (vb x13), (x13 = true → x13 = true), (x13 = true → x13 = true), (x13 = true → x13 = true), ((cond x13 (x11.2 == x12.2) false) = true → PCall Try.prog 25 [] (vb x14)), ((cond x13 (x11.2 == x12.2) false) = true → (cond x13 (x11.2 == x12.2) false) = true)] (by kernel_rfl) (And.intro (ct35 hx13) (And.intro (id) (And.intro (id) (And.intro (id) (And.intro ((fun hg => ct25 (optG_of hx14 hg))) (id)))))) ?_
        obtain rfl := Option.some.inj h
        refine awp_wk 1 [6] (by kernel_rfl) [(6, vb (cond (cond x13 (x11.2 == x12.2) false) x14 false))] [.cells [vi p_r.Steep, .d (L58 p_r.Points)]] (by kernel_rfl) (by kernel_rfl) ?_
        exact awp_ret (main_ret (by kernel_rfl))
end Go.Proofs.Ytadejgckgnbaoaa
