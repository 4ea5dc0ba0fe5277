/- That functions of the seat compute this. Printed by a program of mine. -/
import Derived.Test.YtadejgckgnbaoaaS
import Derived.Test.YtadejgckgnbaoaaCA2
import Derived.Test.YtadejgckgnbaoaaCK
import Derived.Test.YtadejgckgnbaoaaCV
import Derived.Test.YtadejgckgnbaoaaCY
import Derived.Test.YtadejgckgnbaoaaDL
namespace Go.Proofs.Ytadejgckgnbaoaa
open Go Go.Sx
set_option linter.unusedVariables false

set_option maxRecDepth 100000 in
theorem ct9 {fuel : Nat}  {p_r : S_api_CvRow} {p_x : (List Int)} {res : Bool} (h : F9 fuel p_r p_x = some res) : PCall Try.prog 9 [(.agg [(di p_r.Steep), (L58 p_r.Points)]), (L5 p_x)] (vb res) := by
  refine PCall.of_awp tt_ok (N := 133) Try.func9 rfl (by kernel_rfl) rfl (Nat.le_of_ble_eq_true rfl) rfl ?_
  unfold F9 at h
  refine awp_sreg tt_ok (ks := [1, 2]) (hs := []) [(1, .d (L5 p_x)), (2, .ref 0 0)] [.cells [vi p_r.Steep, .d (L58 p_r.Points)]] [] (by kernel_rfl) trivial ?_
  refine awp_seq ?_
  obtain ⟨x1, hx1, h⟩ := Option.bind_eq_some_iff.1 h
  refine awp_sreg tt_ok (ks := [1, 2, 20]) (hs := [.no, .call [(.agg [(di p_r.Steep), (L58 p_r.Points)])] (vb x1)]) [(1, .d (L5 p_x)), (2, .ref 0 0), (20, vb (!x1))] [.cells [vi p_r.Steep, .d (L58 p_r.Points)]] [PCall Try.prog 40 [(.agg [(di p_r.Steep), (L58 p_r.Points)])] (vb x1)] (by kernel_rfl) (ct40 hx1) ?_
  refine awp_cond (b := (!x1)) (by kernel_rfl) (fun hb2 => ?_) (fun hb2 => ?_)
  · rw [if_pos hb2] at h
    obtain ⟨x3, hx3, h⟩ := Option.bind_eq_some_iff.1 h
    refine awp_sreg tt_ok (ks := [8]) (hs := [.no, .call [(.agg [(di p_r.Steep), (L58 p_r.Points)]), (db true)] (.tup [.d (L3 x3.1), vi x3.2.1, vi x3.2.2.1, vi x3.2.2.2])]) [(8, vi x3.2.2.2)] [.cells [vi p_r.Steep, .d (L58 p_r.Points)]] [PCall Try.prog 36 [(.agg [(di p_r.Steep), (L58 p_r.Points)]), (db true)] (.tup [.d (L3 x3.1), vi x3.2.1, vi x3.2.2.1, vi x3.2.2.2])] (by kernel_rfl) (ct36 hx3) ?_
    obtain ⟨x4, hx4, h⟩ := Option.bind_eq_some_iff.1 h
    refine awp_sreg tt_ok (ks := [4]) (hs := [.no, .no, .no, .call [] (vb x4)]) [(4, vb (cond (x3.2.2.2 != 0) x4 false))] [.cells [vi p_r.Steep, .d (L58 p_r.Points)]] [((x3.2.2.2 != 0) = true → PCall Try.prog 25 [] (vb x4)), ((x3.2.2.2 != 0) = true → (x3.2.2.2 != 0) = true)] (by kernel_rfl) (And.intro ((fun hg => ct25 (optG_of hx4 hg))) (id)) ?_
    obtain rfl := Option.some.inj h
    refine awp_wk 1 [4] (by kernel_rfl) [(4, vb (cond (x3.2.2.2 != 0) x4 false))] [.cells [vi p_r.Steep, .d (L58 p_r.Points)]] (by kernel_rfl) (by kernel_rfl) ?_
    exact awp_ret (main_ret (by kernel_rfl))
  · rw [if_neg (ntrue hb2)] at h
    refine awp_skip ?_
    show awp _ _ _ _ _ _ _ _
    obtain ⟨x5, hx5, h⟩ := Option.bind_eq_some_iff.1 h
    refine awp_sreg tt_ok (ks := [2, 9]) (hs := [.no, .no, .call [(.agg [(di p_r.Steep), (L58 p_r.Points)]), (L5 p_x)] (.d (L3 x5))]) [(2, .ref 0 0), (9, .d (L3 x5))] [.cells [vi p_r.Steep, .d (L58 p_r.Points)]] [PCall Try.prog 41 [(.agg [(di p_r.Steep), (L58 p_r.Points)]), (L5 p_x)] (.d (L3 x5))] (by kernel_rfl) (ct41 hx5) ?_
    obtain ⟨x6, hx6, h⟩ := Option.bind_eq_some_iff.1 h
    refine awp_sreg tt_ok (ks := [2, 9, 10]) (hs := [.no, .no, .call [(.agg [(di p_r.Steep), (L58 p_r.Points)]), (L3 x5)] (vb x6)]) [(2, .ref 0 0), (9, .d (L3 x5)), (10, vb x6)] [.cells [vi p_r.Steep, .d (L58 p_r.Points)]] [PCall Try.prog 42 [(.agg [(di p_r.Steep), (L58 p_r.Points)]), (L3 x5)] (vb x6)] (by kernel_rfl) (ct42 hx6) ?_
    obtain ⟨x7, hx7, h⟩ := Option.bind_eq_some_iff.1 h
    obtain ⟨x8, hx8, h⟩ := Option.bind_eq_some_iff.1 h
    obtain ⟨x9, hx9, h⟩ := Option.bind_eq_some_iff.1 h
    refine awp_sdraw tt_ok mixed (ks := [2, 10, 11, 12]) (hs := [.no, .no, .call [(.agg [(di p_r.Steep), (L58 p_r.Points)]), (L3 x5)] (vi x7), .no, .no, .call [(.agg [(di p_r.Steep), (L58 p_r.Points)]), (L3 x5)] (.d (L3 x8)), .call [(L3 x8)] (vi x9)]) 5 [2, 10, 11, 12, 41, 42, 43, 44, 45] [(2, .ref 0 0), (10, vb x6), (11, vi x7), (12, vi x9)] [.cells [vi p_r.Steep, .d (L58 p_r.Points)]] [PCall Try.prog 43 [(.agg [(di p_r.Steep), (L58 p_r.Points)]), (L3 x5)] (vi x7), PCall Try.prog 45 [(.agg [(di p_r.Steep), (L58 p_r.Points)]), (L3 x5)] (.d (L3 x8)), PCall Try.prog 44 [(L3 x8)] (vi x9)] (by kernel_rfl) (And.intro (ct43 hx7) (And.intro (ct45 hx8) (ct44 hx9))) ?_
    refine awp_seq ?_
    refine awp_sreg tt_ok (ks := [2, 10, 11, 12, 13]) (hs := []) [(2, .ref 0 0), (10, vb x6), (11, vi x7), (12, vi x9), (13, vi 0)] [.cells [vi p_r.Steep, .d (L58 p_r.Points)]] [] (by kernel_rfl) trivial ?_
    obtain ⟨o10, ho10, h⟩ := Option.bind_eq_some_iff.1 h
    refine awp_cut1 (OutQ (fun (ro10 : Bool) => [(4, vb ro10)]) (fun (ro10 : Bool) => []) (fun (so10 : Unit) => []) (fun (so10 : Unit) => [.cells [vi p_r.Steep, .d (L58 p_r.Points)]]) o10) ?_ ?_
    · clear h
      have h := ho10
      clear ho10
      refine awp_selQ ?_
      refine awp_wk 1 [2, 10, 11, 12, 13] (by kernel_rfl) [(2, .ref 0 0), (10, vb x6), (11, vi x7), (12, vi x9), (13, vi 0)] [.cells [vi p_r.Steep, .d (L58 p_r.Points)]] (by kernel_rfl) (by kernel_rfl) ?_
      refine awp_block ?_
      refine awp_loop (n := fuel) ?_
      refine awpN_ind (fun n (c11 : Int) => F9L1 fuel p_r x6 x7 x9 n c11) o10 (fun (c11 : Int) => [(2, .ref 0 0), (10, vb x6), (11, vi x7), (12, vi x9), (13, vi c11)]) (fun (c11 : Int) => [.cells [vi p_r.Steep, .d (L58 p_r.Points)]]) (fun _ => rfl) ?_ fuel 0 h
      clear h
      intro n12 c11 h hrn12
      change F9L1 fuel p_r x6 x7 x9 (n12 + 1) c11 = some o10 at h
      rw [F9L1] at h
      refine awp_seq ?_
      refine awp_sreg tt_ok (ks := [2, 10, 11, 12, 13, 47]) (hs := []) [(2, .ref 0 0), (10, vb x6), (11, vi x7), (12, vi x9), (13, vi c11), (47, vb (decide (c11 < 2)))] [.cells [vi p_r.Steep, .d (L58 p_r.Points)]] [] (by kernel_rfl) trivial ?_
      refine awp_cond (b := (decide (c11 < 2))) (by kernel_rfl) (fun hb13 => ?_) (fun hb13 => ?_)
      · rw [if_pos hb13] at h
        refine awp_skip ?_
        show awp _ _ _ _ _ _ _ _
        refine awp_seq ?_
        refine awp_block ?_
        obtain ⟨x14, hx14, h⟩ := Option.bind_eq_some_iff.1 h
        refine awp_sreg tt_ok (ks := [2, 10, 11, 12, 13, 14, 15, 16, 17]) (hs := [.no, .no, .no, .call [(.agg [(di p_r.Steep), (L58 p_r.Points)]), (db (c11 == 1))] (.tup [.d (L3 x14.1), vi x14.2.1, vi x14.2.2.1, vi x14.2.2.2])]) [(2, .ref 0 0), (10, vb x6), (11, vi x7), (12, vi x9), (13, vi c11), (14, .d (L3 x14.1)), (15, vi x14.2.1), (16, vi x14.2.2.1), (17, vi x14.2.2.2)] [.cells [vi p_r.Steep, .d (L58 p_r.Points)]] [PCall Try.prog 36 [(.agg [(di p_r.Steep), (L58 p_r.Points)]), (db (c11 == 1))] (.tup [.d (L3 x14.1), vi x14.2.1, vi x14.2.2.1, vi x14.2.2.2])] (by kernel_rfl) (ct36 hx14) ?_
        refine awp_seq ?_
        refine awp_sreg tt_ok (ks := [2, 10, 11, 12, 13, 14, 15, 16, 17, 60]) (hs := []) [(2, .ref 0 0), (10, vb x6), (11, vi x7), (12, vi x9), (13, vi c11), (14, .d (L3 x14.1)), (15, vi x14.2.1), (16, vi x14.2.2.1), (17, vi x14.2.2.2), (60, vb (x14.2.2.2 != 0))] [.cells [vi p_r.Steep, .d (L58 p_r.Points)]] [] (by kernel_rfl) trivial ?_
        refine awp_cond (b := (x14.2.2.2 != 0)) (by kernel_rfl) (fun hb15 => ?_) (fun hb15 => ?_)
        · rw [if_pos hb15] at h
          refine awp_seq ?_
          refine awp_sreg tt_ok (ks := [2, 10, 11, 12, 13, 70]) (hs := []) [(2, .ref 0 0), (10, vb x6), (11, vi x7), (12, vi x9), (13, vi c11), (70, vb (cond (cond (x14.2.2.2 != 9) true x6) true (decide ((x14.1.length : Int) > 0))))] [.cells [vi p_r.Steep, .d (L58 p_r.Points)]] [((x14.2.2.2 != 9) = false → (!(x14.2.2.2 != 9)) = true), ((!(cond (x14.2.2.2 != 9) true x6)) = true → (!(cond (x14.2.2.2 != 9) true x6)) = true), ((!(cond (x14.2.2.2 != 9) true x6)) = true → (!(cond (x14.2.2.2 != 9) true x6)) = true), ((cond (x14.2.2.2 != 9) true x6) = false → (!(cond (x14.2.2.2 != 9) true x6)) = true)] (by kernel_rfl) (And.intro (not_of) (And.intro (id) (And.intro (id) (not_of)))) ?_
          refine awp_cond (b := (cond (cond (x14.2.2.2 != 9) true x6) true (decide ((x14.1.length : Int) > 0)))) (by kernel_rfl) (fun hb16 => ?_) (fun hb16 => ?_)
          · rw [if_pos hb16] at h
            refine awp_sreg tt_ok (ks := [4]) (hs := []) [(4, vb false)] [.cells [vi p_r.Steep, .d (L58 p_r.Points)]] [] (by kernel_rfl) trivial ?_
            obtain rfl := Option.some.inj h
            refine awp_wk 1 [4] (by kernel_rfl) [(4, vb false)] [.cells [vi p_r.Steep, .d (L58 p_r.Points)]] (by kernel_rfl) (by kernel_rfl) ?_
            exact awp_ret (Sel.mk [] [4] (by kernel_rfl) (by kernel_rfl) (by kernel_rfl) OutQ.ret)
          · rw [if_neg (ntrue hb16)] at h
            refine awp_skip ?_
            show awp _ _ _ _ _ _ _ _
            refine awp_exit ?_
            show awp _ _ _ _ _ _ _ _
            refine awp_region (T' := [(2, .ref 0 0), (10, vb x6), (11, vi x7), (12, vi x9), (13, vi (w64 (c11 + 1)))]) (H' := [.cells [vi p_r.Steep, .d (L58 p_r.Points)]]) (ps := []) tt_ok (ks := [2, 10, 11, 12, 13]) (hs := []) (by kernel_rfl) trivial ?_
            exact awpN_wk 1 [2, 10, 11, 12, 13] (by kernel_rfl) _ _ (by kernel_rfl) (by kernel_rfl) (hrn12 (w64 (c11 + 1)) h)
        · rw [if_neg (ntrue hb15)] at h
          refine awp_skip ?_
          show awp _ _ _ _ _ _ _ _
          refine awp_seq ?_
          obtain ⟨x17, hx17, h⟩ := Option.bind_eq_some_iff.1 h
          obtain ⟨x18, hx18, h⟩ := Option.bind_eq_some_iff.1 h
          obtain ⟨x19, hx19, h⟩ := Option.bind_eq_some_iff.1 h
          obtain ⟨x20, hx20, h⟩ := Option.bind_eq_some_iff.1 h
          refine awp_sreg tt_ok (ks := [2, 10, 11, 12, 13, 15, 16, 89]) (hs := [.no, .no, .call [(.agg [(di p_r.Steep), (L58 p_r.Points)]), (L3 x14.1)] (vb x17), .no, .no, .no, .no, .no, .call [(.agg [(di p_r.Steep), (L58 p_r.Points)]), (L3 x14.1)] (vi x18), .no, .no, .no, .no, .no, .no, .call [(.agg [(di p_r.Steep), (L58 p_r.Points)]), (L3 x14.1)] (.d (L3 x19)), .call [(L3 x19)] (vi x20)]) [(2, .ref 0 0), (10, vb x6), (11, vi x7), (12, vi x9), (13, vi c11), (15, vi x14.2.1), (16, vi x14.2.2.1), (89, vb (cond (cond (!x17) true (x14.2.1 != x18)) true (x14.2.2.1 != x20)))] [.cells [vi p_r.Steep, .d (L58 p_r.Points)]] [PCall Try.prog 42 [(.agg [(di p_r.Steep), (L58 p_r.Points)]), (L3 x14.1)] (vb x17), ((!(!x17)) = true → (!(!x17)) = true), ((!(!x17)) = true → (!(!x17)) = true), ((!(!x17)) = true → PCall Try.prog 43 [(.agg [(di p_r.Steep), (L58 p_r.Points)]), (L3 x14.1)] (vi x18)), ((!(!x17)) = true → (!(!x17)) = true), ((!(!x17)) = true → (!(!x17)) = true), ((!x17) = false → (!(!x17)) = true), ((!(cond (!x17) true (x14.2.1 != x18))) = true → (!(cond (!x17) true (x14.2.1 != x18))) = true), ((!(cond (!x17) true (x14.2.1 != x18))) = true → (!(cond (!x17) true (x14.2.1 != x18))) = true), ((!(cond (!x17) true (x14.2.1 != x18))) = true → PCall Try.prog 45 [(.agg [(di p_r.Steep), (L58 p_r.Points)]), (L3 x14.1)] (.d (L3 x19))), ((!(cond (!x17) true (x14.2.1 != x18))) = true → (!(cond (!x17) true (x14.2.1 != x18))) = true), ((!(cond (!x17) true (x14.2.1 != x18))) = true → PCall Try.prog 44 [(L3 x19)] (vi x20)), ((!(cond (!x17) true (x14.2.1 != x18))) = true → (!(cond (!x17) true (x14.2.1 != x18))) = true), ((!(cond (!x17) true (x14.2.1 != x18))) = true → (!(cond (!x17) true (x14.2.1 != x18))) = true), ((cond (!x17) true (x14.2.1 != x18)) = false → (!(cond (!x17) true (x14.2.1 != x18))) = true)] (by kernel_rfl) (And.intro (ct42 hx17) (And.intro (id) (And.intro (id) (And.intro ((fun hg => ct43 (optG_of hx18 hg))) (And.intro (id) (And.intro (id) (And.intro (not_of) (And.intro (id) (And.intro (id) (And.intro ((fun hg => ct45 (optG_of hx19 hg))) (And.intro (id) (And.intro ((fun hg => ct44 (optG_of hx20 hg))) (And.intro (id) (And.intro (id) (not_of))))))))))))))) ?_
          refine awp_cond (b := (cond (cond (!x17) true (x14.2.1 != x18)) true (x14.2.2.1 != x20))) (by kernel_rfl) (fun hb21 => ?_) (fun hb21 => ?_)
          · rw [if_pos hb21] at h
            refine awp_sreg tt_ok (ks := [4]) (hs := []) [(4, vb false)] [.cells [vi p_r.Steep, .d (L58 p_r.Points)]] [] (by kernel_rfl) trivial ?_
            obtain rfl := Option.some.inj h
            refine awp_wk 1 [4] (by kernel_rfl) [(4, vb false)] [.cells [vi p_r.Steep, .d (L58 p_r.Points)]] (by kernel_rfl) (by kernel_rfl) ?_
            exact awp_ret (Sel.mk [] [4] (by kernel_rfl) (by kernel_rfl) (by kernel_rfl) OutQ.ret)
          · rw [if_neg (ntrue hb21)] at h
            refine awp_skip ?_
            show awp _ _ _ _ _ _ _ _
            refine awp_sreg tt_ok (ks := [2, 10, 11, 12, 13, 131]) (hs := [.no, .no, .no, .no, .no, .no, .no, .no, .no, .no, .no, .no, .no, .no, .no, .no, .no, .own, .own, .no, .no, .no, .no, .no, .no, .own, .no, .no, .no, .no, .no, .no, .no, .no, .no, .no, .no, .no, .own, .own, .own]) [(2, .ref 0 0), (10, vb x6), (11, vi x7), (12, vi x9), (13, vi c11), (131, vb (cond (cond (cond x6 (c11 == 0) false) (cond (decide (x7 < x14.2.1)) true (cond (x7 == x14.2.1) (decide (x9 < x14.2.2.1)) false)) false) true (cond (cond x6 (c11 == 1) false) (cond (decide (x9 < x14.2.2.1)) true (cond (x9 == x14.2.2.1) (decide (x7 < x14.2.1)) false)) false)))] [.cells [vi p_r.Steep, .d (L58 p_r.Points)]] [(x6 = true → x6 = true), (x6 = true → x6 = true), ((cond x6 (c11 == 0) false) = true → (cond x6 (c11 == 0) false) = true), ((cond x6 (c11 == 0) false) = true → (cond x6 (c11 == 0) false) = true), ((cond x6 (c11 == 0) false) = true → (cond x6 (c11 == 0) false) = true), (((cond x6 (c11 == 0) false) && (!(decide (x7 < x14.2.1)))) = true → ((cond x6 (c11 == 0) false) && (!(decide (x7 < x14.2.1)))) = true), (((cond x6 (c11 == 0) false) && (!(decide (x7 < x14.2.1)))) = true → ((cond x6 (c11 == 0) false) && (!(decide (x7 < x14.2.1)))) = true), (((cond x6 (c11 == 0) false) && (!(decide (x7 < x14.2.1)))) = true → ((cond x6 (c11 == 0) false) && (!(decide (x7 < x14.2.1)))) = true), ((((cond x6 (c11 == 0) false) && (!(decide (x7 < x14.2.1)))) && (x7 == x14.2.1)) = true → (((cond x6 (c11 == 0) false) && (!(decide (x7 < x14.2.1)))) && (x7 == x14.2.1)) = true), ((((cond x6 (c11 == 0) false) && (!(decide (x7 < x14.2.1)))) && (x7 == x14.2.1)) = true → (((cond x6 (c11 == 0) false) && (!(decide (x7 < x14.2.1)))) && (x7 == x14.2.1)) = true), (((cond x6 (c11 == 0) false) && (!(decide (x7 < x14.2.1)))) = true → ((cond x6 (c11 == 0) false) && (!(decide (x7 < x14.2.1)))) = true), (((cond x6 (c11 == 0) false) && (!(decide (x7 < x14.2.1)))) = true → (x7 == x14.2.1) = true → (((cond x6 (c11 == 0) false) && (!(decide (x7 < x14.2.1)))) && (x7 == x14.2.1)) = true), ((cond x6 (c11 == 0) false) = true → (cond x6 (c11 == 0) false) = true), ((cond x6 (c11 == 0) false) = true → (decide (x7 < x14.2.1)) = false → ((cond x6 (c11 == 0) false) && (!(decide (x7 < x14.2.1)))) = true), ((cond x6 (c11 == 0) false) = true → (cond x6 (c11 == 0) false) = true), ((!(cond (cond x6 (c11 == 0) false) (cond (decide (x7 < x14.2.1)) true (cond (x7 == x14.2.1) (decide (x9 < x14.2.2.1)) false)) false)) = true → (!(cond (cond x6 (c11 == 0) false) (cond (decide (x7 < x14.2.1)) true (cond (x7 == x14.2.1) (decide (x9 < x14.2.2.1)) false)) false)) = true), (((!(cond (cond x6 (c11 == 0) false) (cond (decide (x7 < x14.2.1)) true (cond (x7 == x14.2.1) (decide (x9 < x14.2.2.1)) false)) false)) && x6) = true → ((!(cond (cond x6 (c11 == 0) false) (cond (decide (x7 < x14.2.1)) true (cond (x7 == x14.2.1) (decide (x9 < x14.2.2.1)) false)) false)) && x6) = true), ((!(cond (cond x6 (c11 == 0) false) (cond (decide (x7 < x14.2.1)) true (cond (x7 == x14.2.1) (decide (x9 < x14.2.2.1)) false)) false)) = true → (!(cond (cond x6 (c11 == 0) false) (cond (decide (x7 < x14.2.1)) true (cond (x7 == x14.2.1) (decide (x9 < x14.2.2.1)) false)) false)) = true), ((!(cond (cond x6 (c11 == 0) false) (cond (decide (x7 < x14.2.1)) true (cond (x7 == x14.2.1) (decide (x9 < x14.2.2.1)) false)) false)) = true → x6 = true → ((!(cond (cond x6 (c11 == 0) false) (cond (decide (x7 < x14.2.1)) true (cond (x7 == x14.2.1) (decide (x9 < x14.2.2.1)) false)) false)) && x6) = true), ((!(cond (cond x6 (c11 == 0) false) (cond (decide (x7 < x14.2.1)) true (cond (x7 == x14.2.1) (decide (x9 < x14.2.2.1)) false)) false)) = true → (!(cond (cond x6 (c11 == 0) false) (cond (decide (x7 < x14.2.1)) true (cond (x7 == x14.2.1) (decide (x9 < x14.2.2.1)) false)) false)) = true), (((!(cond (cond x6 (c11 == 0) false) (cond (decide (x7 < x14.2.1)) true (cond (x7 == x14.2.1) (decide (x9 < x14.2.2.1)) false)) false)) && (cond x6 (c11 == 1) false)) = true → ((!(cond (cond x6 (c11 == 0) false) (cond (decide (x7 < x14.2.1)) true (cond (x7 == x14.2.1) (decide (x9 < x14.2.2.1)) false)) false)) && (cond x6 (c11 == 1) false)) = true), (((!(cond (cond x6 (c11 == 0) false) (cond (decide (x7 < x14.2.1)) true (cond (x7 == x14.2.1) (decide (x9 < x14.2.2.1)) false)) false)) && (cond x6 (c11 == 1) false)) = true → ((!(cond (cond x6 (c11 == 0) false) (cond (decide (x7 < x14.2.1)) true (cond (x7 == x14.2.1) (decide (x9 < x14.2.2.1)) false)) false)) && (cond x6 (c11 == 1) false)) = true), (((!(cond (cond x6 (c11 == 0) false) (cond (decide (x7 < x14.2.1)) true (cond (x7 == x14.2.1) (decide (x9 < x14.2.2.1)) false)) false)) && (cond x6 (c11 == 1) false)) = true → ((!(cond (cond x6 (c11 == 0) false) (cond (decide (x7 < x14.2.1)) true (cond (x7 == x14.2.1) (decide (x9 < x14.2.2.1)) false)) false)) && (cond x6 (c11 == 1) false)) = true), ((((!(cond (cond x6 (c11 == 0) false) (cond (decide (x7 < x14.2.1)) true (cond (x7 == x14.2.1) (decide (x9 < x14.2.2.1)) false)) false)) && (cond x6 (c11 == 1) false)) && (!(decide (x9 < x14.2.2.1)))) = true → (((!(cond (cond x6 (c11 == 0) false) (cond (decide (x7 < x14.2.1)) true (cond (x7 == x14.2.1) (decide (x9 < x14.2.2.1)) false)) false)) && (cond x6 (c11 == 1) false)) && (!(decide (x9 < x14.2.2.1)))) = true), ((((!(cond (cond x6 (c11 == 0) false) (cond (decide (x7 < x14.2.1)) true (cond (x7 == x14.2.1) (decide (x9 < x14.2.2.1)) false)) false)) && (cond x6 (c11 == 1) false)) && (!(decide (x9 < x14.2.2.1)))) = true → (((!(cond (cond x6 (c11 == 0) false) (cond (decide (x7 < x14.2.1)) true (cond (x7 == x14.2.1) (decide (x9 < x14.2.2.1)) false)) false)) && (cond x6 (c11 == 1) false)) && (!(decide (x9 < x14.2.2.1)))) = true), ((((!(cond (cond x6 (c11 == 0) false) (cond (decide (x7 < x14.2.1)) true (cond (x7 == x14.2.1) (decide (x9 < x14.2.2.1)) false)) false)) && (cond x6 (c11 == 1) false)) && (!(decide (x9 < x14.2.2.1)))) = true → (((!(cond (cond x6 (c11 == 0) false) (cond (decide (x7 < x14.2.1)) true (cond (x7 == x14.2.1) (decide (x9 < x14.2.2.1)) false)) false)) && (cond x6 (c11 == 1) false)) && (!(decide (x9 < x14.2.2.1)))) = true), (((((!(cond (cond x6 (c11 == 0) false) (cond (decide (x7 < x14.2.1)) true (cond (x7 == x14.2.1) (decide (x9 < x14.2.2.1)) false)) false)) && (cond x6 (c11 == 1) false)) && (!(decide (x9 < x14.2.2.1)))) && (x9 == x14.2.2.1)) = true → ((((!(cond (cond x6 (c11 == 0) false) (cond (decide (x7 < x14.2.1)) true (cond (x7 == x14.2.1) (decide (x9 < x14.2.2.1)) false)) false)) && (cond x6 (c11 == 1) false)) && (!(decide (x9 < x14.2.2.1)))) && (x9 == x14.2.2.1)) = true), (((((!(cond (cond x6 (c11 == 0) false) (cond (decide (x7 < x14.2.1)) true (cond (x7 == x14.2.1) (decide (x9 < x14.2.2.1)) false)) false)) && (cond x6 (c11 == 1) false)) && (!(decide (x9 < x14.2.2.1)))) && (x9 == x14.2.2.1)) = true → ((((!(cond (cond x6 (c11 == 0) false) (cond (decide (x7 < x14.2.1)) true (cond (x7 == x14.2.1) (decide (x9 < x14.2.2.1)) false)) false)) && (cond x6 (c11 == 1) false)) && (!(decide (x9 < x14.2.2.1)))) && (x9 == x14.2.2.1)) = true), ((((!(cond (cond x6 (c11 == 0) false) (cond (decide (x7 < x14.2.1)) true (cond (x7 == x14.2.1) (decide (x9 < x14.2.2.1)) false)) false)) && (cond x6 (c11 == 1) false)) && (!(decide (x9 < x14.2.2.1)))) = true → (((!(cond (cond x6 (c11 == 0) false) (cond (decide (x7 < x14.2.1)) true (cond (x7 == x14.2.1) (decide (x9 < x14.2.2.1)) false)) false)) && (cond x6 (c11 == 1) false)) && (!(decide (x9 < x14.2.2.1)))) = true), ((((!(cond (cond x6 (c11 == 0) false) (cond (decide (x7 < x14.2.1)) true (cond (x7 == x14.2.1) (decide (x9 < x14.2.2.1)) false)) false)) && (cond x6 (c11 == 1) false)) && (!(decide (x9 < x14.2.2.1)))) = true → (x9 == x14.2.2.1) = true → ((((!(cond (cond x6 (c11 == 0) false) (cond (decide (x7 < x14.2.1)) true (cond (x7 == x14.2.1) (decide (x9 < x14.2.2.1)) false)) false)) && (cond x6 (c11 == 1) false)) && (!(decide (x9 < x14.2.2.1)))) && (x9 == x14.2.2.1)) = true), (((!(cond (cond x6 (c11 == 0) false) (cond (decide (x7 < x14.2.1)) true (cond (x7 == x14.2.1) (decide (x9 < x14.2.2.1)) false)) false)) && (cond x6 (c11 == 1) false)) = true → ((!(cond (cond x6 (c11 == 0) false) (cond (decide (x7 < x14.2.1)) true (cond (x7 == x14.2.1) (decide (x9 < x14.2.2.1)) false)) false)) && (cond x6 (c11 == 1) false)) = true), (((!(cond (cond x6 (c11 == 0) false) (cond (decide (x7 < x14.2.1)) true (cond (x7 == x14.2.1) (decide (x9 < x14.2.2.1)) false)) false)) && (cond x6 (c11 == 1) false)) = true → (decide (x9 < x14.2.2.1)) = false → (((!(cond (cond x6 (c11 == 0) false) (cond (decide (x7 < x14.2.1)) true (cond (x7 == x14.2.1) (decide (x9 < x14.2.2.1)) false)) false)) && (cond x6 (c11 == 1) false)) && (!(decide (x9 < x14.2.2.1)))) = true), ((!(cond (cond x6 (c11 == 0) false) (cond (decide (x7 < x14.2.1)) true (cond (x7 == x14.2.1) (decide (x9 < x14.2.2.1)) false)) false)) = true → (!(cond (cond x6 (c11 == 0) false) (cond (decide (x7 < x14.2.1)) true (cond (x7 == x14.2.1) (decide (x9 < x14.2.2.1)) false)) false)) = true), ((!(cond (cond x6 (c11 == 0) false) (cond (decide (x7 < x14.2.1)) true (cond (x7 == x14.2.1) (decide (x9 < x14.2.2.1)) false)) false)) = true → (cond x6 (c11 == 1) false) = true → ((!(cond (cond x6 (c11 == 0) false) (cond (decide (x7 < x14.2.1)) true (cond (x7 == x14.2.1) (decide (x9 < x14.2.2.1)) false)) false)) && (cond x6 (c11 == 1) false)) = true), ((cond (cond x6 (c11 == 0) false) (cond (decide (x7 < x14.2.1)) true (cond (x7 == x14.2.1) (decide (x9 < x14.2.2.1)) false)) false) = false → (!(cond (cond x6 (c11 == 0) false) (cond (decide (x7 < x14.2.1)) true (cond (x7 == x14.2.1) (decide (x9 < x14.2.2.1)) false)) false)) = true)] (by kernel_rfl) (And.intro (id) (And.intro (id) (And.intro (id) (And.intro (id) (And.intro (id) (And.intro (id) (And.intro (id) (And.intro (id) (And.intro (id) (And.intro (id) (And.intro (id) (And.intro ((fun hg h1 => by first | exact hg | exact h1 | (rw [hg, h1]; rfl) | (simp only [hg, h1, Bool.not_true, Bool.not_false, Bool.and_self, Bool.true_and, Bool.and_true]; done) | (simp only [Bool.and_eq_true] at hg; simp only [hg, h1, Bool.not_true, Bool.not_false, Bool.and_self, Bool.true_and, Bool.and_true]; done) | simp_all)) (And.intro (id) (And.intro ((fun hg h1 => by first | exact hg | exact h1 | (rw [hg, h1]; rfl) | (simp only [hg, h1, Bool.not_true, Bool.not_false, Bool.and_self, Bool.true_and, Bool.and_true]; done) | (simp only [Bool.and_eq_true] at hg; simp only [hg, h1, Bool.not_true, Bool.not_false, Bool.and_self, Bool.true_and, Bool.and_true]; done) | simp_all)) (And.intro (id) (And.intro (id) (And.intro (id) (And.intro (id) (And.intro ((fun hg h1 => by first | exact hg | exact h1 | (rw [hg, h1]; rfl) | (simp only [hg, h1, Bool.not_true, Bool.not_false, Bool.and_self, Bool.true_and, Bool.and_true]; done) | (simp only [Bool.and_eq_true] at hg; simp only [hg, h1, Bool.not_true, Bool.not_false, Bool.and_self, Bool.true_and, Bool.and_true]; done) | simp_all)) (And.intro (id) (And.intro (id) (And.intro (id) (And.intro (id) (And.intro (id) (And.intro (id) (And.intro (id) (And.intro (id) (And.intro (id) (And.intro (id) (And.intro ((fun hg h1 => by first | exact hg | exact h1 | (rw [hg, h1]; rfl) | (simp only [hg, h1, Bool.not_true, Bool.not_false, Bool.and_self, Bool.true_and, Bool.and_true]; done) | (simp only [Bool.and_eq_true] at hg; simp only [hg, h1, Bool.not_true, Bool.not_false, Bool.and_self, Bool.true_and, Bool.and_true]; done) | simp_all)) (And.intro (id) (And.intro ((fun hg h1 => by first | exact hg | exact h1 | (rw [hg, h1]; rfl) | (simp only [hg, h1, Bool.not_true, Bool.not_false, Bool.and_self, Bool.true_and, Bool.and_true]; done) | (simp only [Bool.and_eq_true] at hg; simp only [hg, h1, Bool.not_true, Bool.not_false, Bool.and_self, Bool.true_and, Bool.and_true]; done) | simp_all)) (And.intro (id) (And.intro ((fun hg h1 => by first | exact hg | exact h1 | (rw [hg, h1]; rfl) | (simp only [hg, h1, Bool.not_true, Bool.not_false, Bool.and_self, Bool.true_and, Bool.and_true]; done) | (simp only [Bool.and_eq_true] at hg; simp only [hg, h1, Bool.not_true, Bool.not_false, Bool.and_self, Bool.true_and, Bool.and_true]; done) | simp_all)) (not_of))))))))))))))))))))))))))))))))))) ?_
            refine awp_cond (b := (cond (cond (cond x6 (c11 == 0) false) (cond (decide (x7 < x14.2.1)) true (cond (x7 == x14.2.1) (decide (x9 < x14.2.2.1)) false)) false) true (cond (cond x6 (c11 == 1) false) (cond (decide (x9 < x14.2.2.1)) true (cond (x9 == x14.2.2.1) (decide (x7 < x14.2.1)) false)) false))) (by kernel_rfl) (fun hb22 => ?_) (fun hb22 => ?_)
            · rw [if_pos hb22] at h
              refine awp_sreg tt_ok (ks := [4]) (hs := []) [(4, vb false)] [.cells [vi p_r.Steep, .d (L58 p_r.Points)]] [] (by kernel_rfl) trivial ?_
              obtain rfl := Option.some.inj h
              refine awp_wk 1 [4] (by kernel_rfl) [(4, vb false)] [.cells [vi p_r.Steep, .d (L58 p_r.Points)]] (by kernel_rfl) (by kernel_rfl) ?_
              exact awp_ret (Sel.mk [] [4] (by kernel_rfl) (by kernel_rfl) (by kernel_rfl) OutQ.ret)
            · rw [if_neg (ntrue hb22)] at h
              refine awp_skip ?_
              show awp _ _ _ _ _ _ _ _
              refine awp_region (T' := [(2, .ref 0 0), (10, vb x6), (11, vi x7), (12, vi x9), (13, vi (w64 (c11 + 1)))]) (H' := [.cells [vi p_r.Steep, .d (L58 p_r.Points)]]) (ps := []) tt_ok (ks := [2, 10, 11, 12, 13]) (hs := []) (by kernel_rfl) trivial ?_
              exact awpN_wk 1 [2, 10, 11, 12, 13] (by kernel_rfl) _ _ (by kernel_rfl) (by kernel_rfl) (hrn12 (w64 (c11 + 1)) h)
      · rw [if_neg (ntrue hb13)] at h
        refine awp_exit ?_
        obtain rfl := Option.some.inj h
        exact Sel.mk [0] [] (by kernel_rfl) (by kernel_rfl) (by kernel_rfl) OutQ.norm
    · intro e T H hq
      cases o10 with
      | inl ro10 =>
        obtain ⟨rfl, rfl, rfl⟩ := hq
        rw [outK_inl] at h
        obtain rfl := Option.some.inj h
        exact main_ret (by kernel_rfl)
      | inr so10 =>
        obtain ⟨rfl, rfl, rfl⟩ := hq
        rw [outK_inr] at h
        show awp _ _ _ _ _ _ _ _
        obtain ⟨x23, hx23, h⟩ := Option.bind_eq_some_iff.1 h
        refine awp_sreg tt_ok (ks := [4]) (hs := [.call [] (vb x23)]) [(4, vb x23)] [.cells [vi p_r.Steep, .d (L58 p_r.Points)]] [PCall Try.prog 25 [] (vb x23)] (by kernel_rfl) (ct25 hx23) ?_
        obtain rfl := Option.some.inj h
        refine awp_wk 1 [4] (by kernel_rfl) [(4, vb x23)] [.cells [vi p_r.Steep, .d (L58 p_r.Points)]] (by kernel_rfl) (by kernel_rfl) ?_
        exact awp_ret (main_ret (by kernel_rfl))
end Go.Proofs.Ytadejgckgnbaoaa
