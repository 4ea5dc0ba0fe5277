/- That functions of the seat compute this. Printed by a program of mine. -/
import Derived.Test.YtpkhbbboedoldaaS
import Derived.Test.YtpkhbbboedoldaaCA
import Derived.Test.YtpkhbbboedoldaaCE
import Derived.Test.YtpkhbbboedoldaaCQ
import Derived.Test.YtpkhbbboedoldaaCW
import Derived.Test.YtpkhbbboedoldaaDB
namespace Go.Proofs.Ytpkhbbboedoldaa
open Go Go.Sx
set_option linter.unusedVariables false

set_option maxRecDepth 100000 in
theorem ct3 {fuel : Nat}  {p_m : S_api_ClMap} {legend : (List Int)} {res : Bool} (h : F3 fuel p_m legend = some res) : PCall Try.prog 3 [(.agg [(L60 p_m.Borders), (di p_m.Step), (L60 p_m.Heights), (L51 p_m.Sides), (di p_m.Inks), (L51 p_m.Like)]), (L3 legend)] (vb res) := by
  refine PCall.of_awp tt_ok (N := 127) Try.func3 rfl (by kernel_rfl) rfl (Nat.le_of_ble_eq_true rfl) rfl ?_
  unfold F3 at h
  refine awp_sreg tt_ok (ks := [1, 2]) (hs := []) [(1, .d (L3 legend)), (2, .ref 0 0)] [.cells [.d (L60 p_m.Borders), vi p_m.Step, .d (L60 p_m.Heights), .d (L51 p_m.Sides), vi p_m.Inks, .d (L51 p_m.Like)]] [] (by kernel_rfl) trivial ?_
  obtain ⟨x1, hx1, h⟩ := Option.bind_eq_some_iff.1 h
  refine awp_sreg tt_ok (ks := [1, 2, 5, 6, 7]) (hs := [.no, .call [(.agg [(L60 p_m.Borders), (di p_m.Step), (L60 p_m.Heights), (L51 p_m.Sides), (di p_m.Inks), (L51 p_m.Like)])] (.tup [vi x1.1, vi x1.2.1, vi x1.2.2])]) [(1, .d (L3 legend)), (2, .ref 0 0), (5, vi x1.1), (6, vi x1.2.1), (7, vi x1.2.2)] [.cells [.d (L60 p_m.Borders), vi p_m.Step, .d (L60 p_m.Heights), .d (L51 p_m.Sides), vi p_m.Inks, .d (L51 p_m.Like)]] [PCall Try.prog 17 [(.agg [(L60 p_m.Borders), (di p_m.Step), (L60 p_m.Heights), (L51 p_m.Sides), (di p_m.Inks), (L51 p_m.Like)])] (.tup [vi x1.1, vi x1.2.1, vi x1.2.2])] (by kernel_rfl) (ct17 hx1) ?_
  obtain ⟨x2, hx2, h⟩ := Option.bind_eq_some_iff.1 h
  refine awp_sreg tt_ok (ks := [1, 2, 5, 6, 7, 8, 9, 10]) (hs := [.no, .call [(.agg [(L60 p_m.Borders), (di p_m.Step), (L60 p_m.Heights), (L51 p_m.Sides), (di p_m.Inks), (L51 p_m.Like)])] (.tup [vi x2.1, vi x2.2.1, vi x2.2.2])]) [(1, .d (L3 legend)), (2, .ref 0 0), (5, vi x1.1), (6, vi x1.2.1), (7, vi x1.2.2), (8, vi x2.1), (9, vi x2.2.1), (10, vi x2.2.2)] [.cells [.d (L60 p_m.Borders), vi p_m.Step, .d (L60 p_m.Heights), .d (L51 p_m.Sides), vi p_m.Inks, .d (L51 p_m.Like)]] [PCall Try.prog 18 [(.agg [(L60 p_m.Borders), (di p_m.Step), (L60 p_m.Heights), (L51 p_m.Sides), (di p_m.Inks), (L51 p_m.Like)])] (.tup [vi x2.1, vi x2.2.1, vi x2.2.2])] (by kernel_rfl) (ct18 hx2) ?_
  refine awp_seq ?_
  refine awp_sreg tt_ok (ks := [1, 2, 41]) (hs := []) [(1, .d (L3 legend)), (2, .ref 0 0), (41, vb (cond (cond (x1.1 != x2.1) true (x1.2.1 != x2.2.1)) true (x1.2.2 != x2.2.2)))] [.cells [.d (L60 p_m.Borders), vi p_m.Step, .d (L60 p_m.Heights), .d (L51 p_m.Sides), vi p_m.Inks, .d (L51 p_m.Like)]] [((!(x1.1 != x2.1)) = true → (!(x1.1 != x2.1)) = true), ((!(x1.1 != x2.1)) = true → (!(x1.1 != x2.1)) = true), ((x1.1 != x2.1) = false → (!(x1.1 != x2.1)) = true), ((!(cond (x1.1 != x2.1) true (x1.2.1 != x2.2.1))) = true → (!(cond (x1.1 != x2.1) true (x1.2.1 != x2.2.1))) = true), ((!(cond (x1.1 != x2.1) true (x1.2.1 != x2.2.1))) = true → (!(cond (x1.1 != x2.1) true (x1.2.1 != x2.2.1))) = true), ((cond (x1.1 != x2.1) true (x1.2.1 != x2.2.1)) = false → (!(cond (x1.1 != x2.1) true (x1.2.1 != x2.2.1))) = true)] (by kernel_rfl) (And.intro (id) (And.intro (id) (And.intro (not_of) (And.intro (id) (And.intro (id) (not_of)))))) ?_
  refine awp_cond (b := (cond (cond (x1.1 != x2.1) true (x1.2.1 != x2.2.1)) true (x1.2.2 != x2.2.2))) (by kernel_rfl) (fun hb3 => ?_) (fun hb3 => ?_)
  · rw [if_pos hb3] at h
    refine awp_sreg tt_ok (ks := [4]) (hs := []) [(4, vb false)] [.cells [.d (L60 p_m.Borders), vi p_m.Step, .d (L60 p_m.Heights), .d (L51 p_m.Sides), vi p_m.Inks, .d (L51 p_m.Like)]] [] (by kernel_rfl) trivial ?_
    obtain rfl := Option.some.inj h
    refine awp_wk 1 [4] (by kernel_rfl) [(4, vb false)] [.cells [.d (L60 p_m.Borders), vi p_m.Step, .d (L60 p_m.Heights), .d (L51 p_m.Sides), vi p_m.Inks, .d (L51 p_m.Like)]] (by kernel_rfl) (by kernel_rfl) ?_
    exact awp_ret (main_ret (by kernel_rfl))
  · rw [if_neg (ntrue hb3)] at h
    refine awp_skip ?_
    show awp _ _ _ _ _ _ _ _
    obtain ⟨x4, hx4, h⟩ := Option.bind_eq_some_iff.1 h
    refine awp_sreg tt_ok (ks := [1, 2, 6, 7]) (hs := [.no, .no, .call [(.agg [(L60 p_m.Borders), (di p_m.Step), (L60 p_m.Heights), (L51 p_m.Sides), (di p_m.Inks), (L51 p_m.Like)]), (L3 legend)] (.tup [vi x4.1, vi x4.2])]) [(1, .d (L3 legend)), (2, .ref 0 0), (6, vi x4.1), (7, vi x4.2)] [.cells [.d (L60 p_m.Borders), vi p_m.Step, .d (L60 p_m.Heights), .d (L51 p_m.Sides), vi p_m.Inks, .d (L51 p_m.Like)]] [PCall Try.prog 19 [(.agg [(L60 p_m.Borders), (di p_m.Step), (L60 p_m.Heights), (L51 p_m.Sides), (di p_m.Inks), (L51 p_m.Like)]), (L3 legend)] (.tup [vi x4.1, vi x4.2])] (by kernel_rfl) (ct19 hx4) ?_
    obtain ⟨x5, hx5, h⟩ := Option.bind_eq_some_iff.1 h
    refine awp_sreg tt_ok (ks := [1, 2, 6, 7, 9, 10]) (hs := [.no, .no, .call [(.agg [(L60 p_m.Borders), (di p_m.Step), (L60 p_m.Heights), (L51 p_m.Sides), (di p_m.Inks), (L51 p_m.Like)]), (L3 legend)] (.tup [vi x5.1, vi x5.2])]) [(1, .d (L3 legend)), (2, .ref 0 0), (6, vi x4.1), (7, vi x4.2), (9, vi x5.1), (10, vi x5.2)] [.cells [.d (L60 p_m.Borders), vi p_m.Step, .d (L60 p_m.Heights), .d (L51 p_m.Sides), vi p_m.Inks, .d (L51 p_m.Like)]] [PCall Try.prog 20 [(.agg [(L60 p_m.Borders), (di p_m.Step), (L60 p_m.Heights), (L51 p_m.Sides), (di p_m.Inks), (L51 p_m.Like)]), (L3 legend)] (.tup [vi x5.1, vi x5.2])] (by kernel_rfl) (ct20 hx5) ?_
    refine awp_seq ?_
    refine awp_sreg tt_ok (ks := [1, 2, 61]) (hs := []) [(1, .d (L3 legend)), (2, .ref 0 0), (61, vb (cond (x4.1 != x5.1) true (x4.2 != x5.2)))] [.cells [.d (L60 p_m.Borders), vi p_m.Step, .d (L60 p_m.Heights), .d (L51 p_m.Sides), vi p_m.Inks, .d (L51 p_m.Like)]] [((!(x4.1 != x5.1)) = true → (!(x4.1 != x5.1)) = true), ((!(x4.1 != x5.1)) = true → (!(x4.1 != x5.1)) = true), ((x4.1 != x5.1) = false → (!(x4.1 != x5.1)) = true)] (by kernel_rfl) (And.intro (id) (And.intro (id) (not_of))) ?_
    refine awp_cond (b := (cond (x4.1 != x5.1) true (x4.2 != x5.2))) (by kernel_rfl) (fun hb6 => ?_) (fun hb6 => ?_)
    · rw [if_pos hb6] at h
      refine awp_sreg tt_ok (ks := [4]) (hs := []) [(4, vb false)] [.cells [.d (L60 p_m.Borders), vi p_m.Step, .d (L60 p_m.Heights), .d (L51 p_m.Sides), vi p_m.Inks, .d (L51 p_m.Like)]] [] (by kernel_rfl) trivial ?_
      obtain rfl := Option.some.inj h
      refine awp_wk 1 [4] (by kernel_rfl) [(4, vb false)] [.cells [.d (L60 p_m.Borders), vi p_m.Step, .d (L60 p_m.Heights), .d (L51 p_m.Sides), vi p_m.Inks, .d (L51 p_m.Like)]] (by kernel_rfl) (by kernel_rfl) ?_
      exact awp_ret (main_ret (by kernel_rfl))
    · rw [if_neg (ntrue hb6)] at h
      refine awp_skip ?_
      show awp _ _ _ _ _ _ _ _
      obtain ⟨x7, hx7, h⟩ := Option.bind_eq_some_iff.1 h
      refine awp_sreg tt_ok (ks := [1, 2, 7, 11]) (hs := [.no, .no, .call [(.agg [(L60 p_m.Borders), (di p_m.Step), (L60 p_m.Heights), (L51 p_m.Sides), (di p_m.Inks), (L51 p_m.Like)]), (L3 legend)] (.tup [.d (L60 x7.1), vi x7.2])]) [(1, .d (L3 legend)), (2, .ref 0 0), (7, vi x7.2), (11, .d (L60 x7.1))] [.cells [.d (L60 p_m.Borders), vi p_m.Step, .d (L60 p_m.Heights), .d (L51 p_m.Sides), vi p_m.Inks, .d (L51 p_m.Like)]] [PCall Try.prog 21 [(.agg [(L60 p_m.Borders), (di p_m.Step), (L60 p_m.Heights), (L51 p_m.Sides), (di p_m.Inks), (L51 p_m.Like)]), (L3 legend)] (.tup [.d (L60 x7.1), vi x7.2])] (by kernel_rfl) (ct21 hx7) ?_
      obtain ⟨x8, hx8, h⟩ := Option.bind_eq_some_iff.1 h
      refine awp_sreg tt_ok (ks := [1, 2, 7, 10, 11, 12]) (hs := [.no, .no, .call [(.agg [(L60 p_m.Borders), (di p_m.Step), (L60 p_m.Heights), (L51 p_m.Sides), (di p_m.Inks), (L51 p_m.Like)]), (L3 legend)] (.tup [.d (L60 x8.1), vi x8.2])]) [(1, .d (L3 legend)), (2, .ref 0 0), (7, vi x7.2), (10, vi x8.2), (11, .d (L60 x7.1)), (12, .d (L60 x8.1))] [.cells [.d (L60 p_m.Borders), vi p_m.Step, .d (L60 p_m.Heights), .d (L51 p_m.Sides), vi p_m.Inks, .d (L51 p_m.Like)]] [PCall Try.prog 22 [(.agg [(L60 p_m.Borders), (di p_m.Step), (L60 p_m.Heights), (L51 p_m.Sides), (di p_m.Inks), (L51 p_m.Like)]), (L3 legend)] (.tup [.d (L60 x8.1), vi x8.2])] (by kernel_rfl) (ct22 hx8) ?_
      refine awp_seq ?_
      obtain ⟨x9, hx9, h⟩ := Option.bind_eq_some_iff.1 h
      refine awp_sreg tt_ok (ks := [1, 2, 82]) (hs := [.no, .no, .call [(L60 x7.1), (L60 x8.1)] (vb x9)]) [(1, .d (L3 legend)), (2, .ref 0 0), (82, vb (cond (!x9) true (x7.2 != x8.2)))] [.cells [.d (L60 p_m.Borders), vi p_m.Step, .d (L60 p_m.Heights), .d (L51 p_m.Sides), vi p_m.Inks, .d (L51 p_m.Like)]] [PCall Try.prog 23 [(L60 x7.1), (L60 x8.1)] (vb x9), ((!(!x9)) = true → (!(!x9)) = true), ((!(!x9)) = true → (!(!x9)) = true), ((!x9) = false → (!(!x9)) = true)] (by kernel_rfl) (And.intro (ct23 hx9) (And.intro (id) (And.intro (id) (not_of)))) ?_
      refine awp_cond (b := (cond (!x9) true (x7.2 != x8.2))) (by kernel_rfl) (fun hb10 => ?_) (fun hb10 => ?_)
      · rw [if_pos hb10] at h
        refine awp_sreg tt_ok (ks := [4]) (hs := []) [(4, vb false)] [.cells [.d (L60 p_m.Borders), vi p_m.Step, .d (L60 p_m.Heights), .d (L51 p_m.Sides), vi p_m.Inks, .d (L51 p_m.Like)]] [] (by kernel_rfl) trivial ?_
        obtain rfl := Option.some.inj h
        refine awp_wk 1 [4] (by kernel_rfl) [(4, vb false)] [.cells [.d (L60 p_m.Borders), vi p_m.Step, .d (L60 p_m.Heights), .d (L51 p_m.Sides), vi p_m.Inks, .d (L51 p_m.Like)]] (by kernel_rfl) (by kernel_rfl) ?_
        exact awp_ret (main_ret (by kernel_rfl))
      · rw [if_neg (ntrue hb10)] at h
        refine awp_skip ?_
        show awp _ _ _ _ _ _ _ _
        obtain ⟨x11, hx11, h⟩ := Option.bind_eq_some_iff.1 h
        refine awp_sreg tt_ok (ks := [1, 2, 7, 13]) (hs := [.no, .no, .call [(.agg [(L60 p_m.Borders), (di p_m.Step), (L60 p_m.Heights), (L51 p_m.Sides), (di p_m.Inks), (L51 p_m.Like)]), (L3 legend)] (.tup [.d (L3 x11.1), vi x11.2])]) [(1, .d (L3 legend)), (2, .ref 0 0), (7, vi x11.2), (13, .d (L3 x11.1))] [.cells [.d (L60 p_m.Borders), vi p_m.Step, .d (L60 p_m.Heights), .d (L51 p_m.Sides), vi p_m.Inks, .d (L51 p_m.Like)]] [PCall Try.prog 24 [(.agg [(L60 p_m.Borders), (di p_m.Step), (L60 p_m.Heights), (L51 p_m.Sides), (di p_m.Inks), (L51 p_m.Like)]), (L3 legend)] (.tup [.d (L3 x11.1), vi x11.2])] (by kernel_rfl) (ct24 hx11) ?_
        obtain ⟨x12, hx12, h⟩ := Option.bind_eq_some_iff.1 h
        refine awp_sreg tt_ok (ks := [1, 2, 7, 10, 13, 14]) (hs := [.no, .no, .call [(.agg [(L60 p_m.Borders), (di p_m.Step), (L60 p_m.Heights), (L51 p_m.Sides), (di p_m.Inks), (L51 p_m.Like)]), (L3 legend)] (.tup [.d (L3 x12.1), vi x12.2])]) [(1, .d (L3 legend)), (2, .ref 0 0), (7, vi x11.2), (10, vi x12.2), (13, .d (L3 x11.1)), (14, .d (L3 x12.1))] [.cells [.d (L60 p_m.Borders), vi p_m.Step, .d (L60 p_m.Heights), .d (L51 p_m.Sides), vi p_m.Inks, .d (L51 p_m.Like)]] [PCall Try.prog 25 [(.agg [(L60 p_m.Borders), (di p_m.Step), (L60 p_m.Heights), (L51 p_m.Sides), (di p_m.Inks), (L51 p_m.Like)]), (L3 legend)] (.tup [.d (L3 x12.1), vi x12.2])] (by kernel_rfl) (ct25 hx12) ?_
        refine awp_seq ?_
        obtain ⟨x13, hx13, h⟩ := Option.bind_eq_some_iff.1 h
        refine awp_sreg tt_ok (ks := [1, 2, 103]) (hs := [.no, .no, .call [(L3 x11.1), (L3 x12.1)] (vb x13)]) [(1, .d (L3 legend)), (2, .ref 0 0), (103, vb (cond (!x13) true (x11.2 != x12.2)))] [.cells [.d (L60 p_m.Borders), vi p_m.Step, .d (L60 p_m.Heights), .d (L51 p_m.Sides), vi p_m.Inks, .d (L51 p_m.Like)]] [PCall Try.prog 26 [(L3 x11.1), (L3 x12.1)] (vb x13), ((!(!x13)) = true → (!(!x13)) = true), ((!(!x13)) = true → (!(!x13)) = true), ((!x13) = false → (!(!x13)) = true)] (by kernel_rfl) (And.intro (ct26 hx13) (And.intro (id) (And.intro (id) (not_of)))) ?_
        refine awp_cond (b := (cond (!x13) true (x11.2 != x12.2))) (by kernel_rfl) (fun hb14 => ?_) (fun hb14 => ?_)
        · rw [if_pos hb14] at h
          refine awp_sreg tt_ok (ks := [4]) (hs := []) [(4, vb false)] [.cells [.d (L60 p_m.Borders), vi p_m.Step, .d (L60 p_m.Heights), .d (L51 p_m.Sides), vi p_m.Inks, .d (L51 p_m.Like)]] [] (by kernel_rfl) trivial ?_
          obtain rfl := Option.some.inj h
          refine awp_wk 1 [4] (by kernel_rfl) [(4, vb false)] [.cells [.d (L60 p_m.Borders), vi p_m.Step, .d (L60 p_m.Heights), .d (L51 p_m.Sides), vi p_m.Inks, .d (L51 p_m.Like)]] (by kernel_rfl) (by kernel_rfl) ?_
          exact awp_ret (main_ret (by kernel_rfl))
        · rw [if_neg (ntrue hb14)] at h
          refine awp_skip ?_
          show awp _ _ _ _ _ _ _ _
          obtain ⟨x15, hx15, h⟩ := Option.bind_eq_some_iff.1 h
          refine awp_sreg tt_ok (ks := [1, 2, 7, 15]) (hs := [.no, .no, .call [(.agg [(L60 p_m.Borders), (di p_m.Step), (L60 p_m.Heights), (L51 p_m.Sides), (di p_m.Inks), (L51 p_m.Like)]), (L3 legend)] (.tup [.d (L51 x15.1), vi x15.2])]) [(1, .d (L3 legend)), (2, .ref 0 0), (7, vi x15.2), (15, .d (L51 x15.1))] [.cells [.d (L60 p_m.Borders), vi p_m.Step, .d (L60 p_m.Heights), .d (L51 p_m.Sides), vi p_m.Inks, .d (L51 p_m.Like)]] [PCall Try.prog 27 [(.agg [(L60 p_m.Borders), (di p_m.Step), (L60 p_m.Heights), (L51 p_m.Sides), (di p_m.Inks), (L51 p_m.Like)]), (L3 legend)] (.tup [.d (L51 x15.1), vi x15.2])] (by kernel_rfl) (ct27 hx15) ?_
          obtain ⟨x16, hx16, h⟩ := Option.bind_eq_some_iff.1 h
          refine awp_sreg tt_ok (ks := [7, 10, 15, 16]) (hs := [.no, .no, .call [(.agg [(L60 p_m.Borders), (di p_m.Step), (L60 p_m.Heights), (L51 p_m.Sides), (di p_m.Inks), (L51 p_m.Like)]), (L3 legend)] (.tup [.d (L51 x16.1), vi x16.2])]) [(7, vi x15.2), (10, vi x16.2), (15, .d (L51 x15.1)), (16, .d (L51 x16.1))] [.cells [.d (L60 p_m.Borders), vi p_m.Step, .d (L60 p_m.Heights), .d (L51 p_m.Sides), vi p_m.Inks, .d (L51 p_m.Like)]] [PCall Try.prog 28 [(.agg [(L60 p_m.Borders), (di p_m.Step), (L60 p_m.Heights), (L51 p_m.Sides), (di p_m.Inks), (L51 p_m.Like)]), (L3 legend)] (.tup [.d (L51 x16.1), vi x16.2])] (by kernel_rfl) (ct28 hx16) ?_
          obtain ⟨x17, hx17, h⟩ := Option.bind_eq_some_iff.1 h
          obtain ⟨x18, hx18, h⟩ := Option.bind_eq_some_iff.1 h
          refine awp_sreg tt_ok (ks := [4]) (hs := [.no, .no, .call [(L51 x15.1), (L51 x16.1)] (vb x17), .no, .no, .no, .no, .no, .no, .call [] (vb x18)]) [(4, vb (cond (cond x17 (x15.2 == x16.2) false) x18 false))] [.cells [.d (L60 p_m.Borders), vi p_m.Step, .d (L60 p_m.Heights), .d (L51 p_m.Sides), vi p_m.Inks, .d (L51 p_m.Like)]] [PCall Try.prog 29 [(L51 x15.1), (L51 x16.1)] (vb x17), (x17 = true → x17 = true), (x17 = true → x17 = true), (x17 = true → x17 = true), ((cond x17 (x15.2 == x16.2) false) = true → PCall Try.prog 30 [] (vb x18)), ((cond x17 (x15.2 == x16.2) false) = true → (cond x17 (x15.2 == x16.2) false) = true)] (by kernel_rfl) (And.intro (ct29 hx17) (And.intro (id) (And.intro (id) (And.intro (id) (And.intro ((fun hg => ct30 (optG_of hx18 hg))) (id)))))) ?_
          obtain rfl := Option.some.inj h
          refine awp_wk 1 [4] (by kernel_rfl) [(4, vb (cond (cond x17 (x15.2 == x16.2) false) x18 false))] [.cells [.d (L60 p_m.Borders), vi p_m.Step, .d (L60 p_m.Heights), .d (L51 p_m.Sides), vi p_m.Inks, .d (L51 p_m.Like)]] (by kernel_rfl) (by kernel_rfl) ?_
          exact awp_ret (main_ret (by kernel_rfl))
end Go.Proofs.Ytpkhbbboedoldaa
