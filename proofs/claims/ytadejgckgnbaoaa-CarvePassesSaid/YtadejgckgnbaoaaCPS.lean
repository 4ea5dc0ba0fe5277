/- That functions of the seat compute this. Printed by a program of mine. -/
import Derived.Test.YtadejgckgnbaoaaS
import Derived.Test.YtadejgckgnbaoaaCA1
import Derived.Test.YtadejgckgnbaoaaCA2
import Derived.Test.YtadejgckgnbaoaaCV
import Derived.Test.YtadejgckgnbaoaaDPS
namespace Go.Proofs.Ytadejgckgnbaoaa
open Go Go.Sx
set_option linter.unusedVariables false

set_option maxRecDepth 100000 in
theorem ct46 {fuel : Nat}  {p_r : S_api_CvRow} {p_x : (List Int)} {res : (List S_api_CvPass)} (h : F46 fuel p_r p_x = some res) : PCall Try.prog 46 [(.agg [(di p_r.Steep), (L58 p_r.Points)]), (L5 p_x)] (.d (L84 res)) := by
  refine PCall.of_awp tt_ok (N := 49) Try.func46 rfl (by kernel_rfl) rfl (Nat.le_of_ble_eq_true rfl) rfl ?_
  unfold F46 at h
  refine awp_sreg tt_ok (ks := [1, 2]) (hs := []) [(1, .d (L5 p_x)), (2, .ref 0 0)] [.cells [vi p_r.Steep, .d (L58 p_r.Points)]] [] (by kernel_rfl) trivial ?_
  refine awp_sreg tt_ok (ks := [1, 2, 5]) (hs := []) [(1, .d (L5 p_x)), (2, .ref 0 0), (5, .d dnil)] [.cells [vi p_r.Steep, .d (L58 p_r.Points)]] [] (by kernel_rfl) trivial ?_
  refine awp_seq ?_
  refine awp_sreg tt_ok (ks := [1, 2, 5, 6]) (hs := []) [(1, .d (L5 p_x)), (2, .ref 0 0), (5, .d dnil), (6, vi 0)] [.cells [vi p_r.Steep, .d (L58 p_r.Points)]] [] (by kernel_rfl) trivial ?_
  refine awp_nil 5 2 (by kernel_rfl) ?_
  refine awp_eq (T' := [(5, .sl 2 1 0 ([] : List S_api_CvPass).length), (1, .d (L5 p_x)), (2, .ref 0 0), (6, vi 0)]) (H' := [.cells [vi p_r.Steep, .d (L58 p_r.Points)], .data (([] : List S_api_CvPass).flatMap cel84)]) (by kernel_rfl) (by kernel_rfl) ?_
  refine awp_wk 2 [1, 2, 5, 6] (by kernel_rfl) [(1, .d (L5 p_x)), (2, .ref 0 0), (5, .sl 2 1 0 ([] : List S_api_CvPass).length), (6, vi 0)] [.cells [vi p_r.Steep, .d (L58 p_r.Points)], .data (([] : List S_api_CvPass).flatMap cel84)] (by kernel_rfl) (by kernel_rfl) ?_
  obtain ⟨o2, ho2, h⟩ := Option.bind_eq_some_iff.1 h
  refine awp_cut1 (OutQ (fun (ro2 : (List S_api_CvPass)) => [(4, .d (L84 ro2))]) (fun (ro2 : (List S_api_CvPass)) => []) (fun (so2 : (List S_api_CvPass)) => [(5, .sl 2 1 0 so2.length)]) (fun (so2 : (List S_api_CvPass)) => [.cells [vi p_r.Steep, .d (L58 p_r.Points)], .data (so2.flatMap cel84)]) o2) ?_ ?_
  · clear h
    have h := ho2
    clear ho2
    refine awp_selQ ?_
    refine awp_wk 2 [1, 2, 5, 6] (by kernel_rfl) [(1, .d (L5 p_x)), (2, .ref 0 0), (5, .sl 2 1 0 ([] : List S_api_CvPass).length), (6, vi 0)] [.cells [vi p_r.Steep, .d (L58 p_r.Points)], .data (([] : List S_api_CvPass).flatMap cel84)] (by kernel_rfl) (by kernel_rfl) ?_
    refine awp_block ?_
    refine awp_loop (n := fuel) ?_
    refine awpN_ind (fun n (c3 : Int × (List S_api_CvPass)) => F46L1 p_r p_x n c3) o2 (fun (c3 : Int × (List S_api_CvPass)) => [(1, .d (L5 p_x)), (2, .ref 0 0), (5, .sl 2 1 0 c3.2.length), (6, vi c3.1)]) (fun (c3 : Int × (List S_api_CvPass)) => [.cells [vi p_r.Steep, .d (L58 p_r.Points)], .data (c3.2.flatMap cel84)]) (fun _ => rfl) ?_ fuel (0, ([] : List S_api_CvPass)) h
    clear h
    intro n4 c3 h hrn4
    change F46L1 p_r p_x (n4 + 1) c3 = some o2 at h
    rw [F46L1] at h
    refine awp_seq ?_
    refine awp_sreg tt_ok (ks := [1, 2, 5, 6, 17]) (hs := []) [(1, .d (L5 p_x)), (2, .ref 0 0), (5, .sl 2 1 0 c3.2.length), (6, vi c3.1), (17, vb (cond (decide ((w64 (c3.1 + 1)) < (p_x.length : Int))) (decide ((c3.2.length : Int) < 60)) false))] [.cells [vi p_r.Steep, .d (L58 p_r.Points)], .data (c3.2.flatMap cel84)] [((decide ((w64 (c3.1 + 1)) < (p_x.length : Int))) = true → (decide ((w64 (c3.1 + 1)) < (p_x.length : Int))) = true), ((decide ((w64 (c3.1 + 1)) < (p_x.length : Int))) = true → (decide ((w64 (c3.1 + 1)) < (p_x.length : Int))) = true), ((decide ((w64 (c3.1 + 1)) < (p_x.length : Int))) = true → (decide ((w64 (c3.1 + 1)) < (p_x.length : Int))) = true)] (by kernel_rfl) (And.intro (id) (And.intro (id) (id))) ?_
    refine awp_cond (b := (cond (decide ((w64 (c3.1 + 1)) < (p_x.length : Int))) (decide ((c3.2.length : Int) < 60)) false)) (by kernel_rfl) (fun hb5 => ?_) (fun hb5 => ?_)
    · rw [if_pos hb5] at h
      refine awp_skip ?_
      show awp _ _ _ _ _ _ _ _
      refine awp_seq ?_
      refine awp_block ?_
      obtain ⟨x6, hx6, h⟩ := Option.bind_eq_some_iff.1 h
      obtain ⟨x7, hx7, h⟩ := Option.bind_eq_some_iff.1 h
      refine awp_sdraw tt_ok mixed (ks := [1, 2, 5, 6, 7]) (hs := [.no, .no, .cells (cel5 x6)]) 8 [1, 2, 5, 6, 7, 24, 27, 28] [(1, .d (L5 p_x)), (2, .ref 0 0), (5, .sl 2 1 0 c3.2.length), (6, vi c3.1), (7, vi ((IntKind.i64.wrap x6).tmod (p_r.Points.length : Int)))] [.cells [vi p_r.Steep, .d (L58 p_r.Points)], .data (c3.2.flatMap cel84)] [IX5 p_x c3.1 x6, ((p_r.Points.length : Int) ≠ 0)] (by kernel_rfl) (And.intro (idxOk cel5_len hx6) ((need_of hx7 : (p_r.Points.length : Int) ≠ 0))) ?_
      obtain ⟨x8, hx8, h⟩ := Option.bind_eq_some_iff.1 h
      obtain ⟨x9, hx9, h⟩ := Option.bind_eq_some_iff.1 h
      obtain ⟨x10, hx10, h⟩ := Option.bind_eq_some_iff.1 h
      obtain ⟨x11, hx11, h⟩ := Option.bind_eq_some_iff.1 h
      refine awp_draw (T' := [(1, .d (L5 p_x)), (2, .ref 0 0), (5, .sl 2 1 0 (c3.2 ++ ([(⟨x10.From, x10.To⟩ : S_api_CvPass)] : List S_api_CvPass)).length), (6, vi c3.1)]) (H' := [.cells [vi p_r.Steep, .d (L58 p_r.Points)], .data ((c3.2 ++ ([(⟨x10.From, x10.To⟩ : S_api_CvPass)] : List S_api_CvPass)).flatMap cel84)]) (ps := [IX5 p_x (w64 (c3.1 + 1)) x8, ((w64 ((p_r.Points.length : Int) - ((IntKind.i64.wrap x6).tmod (p_r.Points.length : Int)))) ≠ 0), PCall Try.prog 58 [(di ((IntKind.i64.wrap x6).tmod (p_r.Points.length : Int))), (di (w64 (((IntKind.i64.wrap x6).tmod (p_r.Points.length : Int)) + ((IntKind.i64.wrap x8).tmod (w64 ((p_r.Points.length : Int) - ((IntKind.i64.wrap x6).tmod (p_r.Points.length : Int))))))))] (.d (.agg [(di x10.From), (di x10.To)])), AppendOk ((c3.2.flatMap cel84).map .d) c3.2.length ([(⟨x10.From, x10.To⟩ : S_api_CvPass)] : List S_api_CvPass).length (c3.2 ++ ([(⟨x10.From, x10.To⟩ : S_api_CvPass)] : List S_api_CvPass)).length 2 16 (([(⟨x10.From, x10.To⟩ : S_api_CvPass)] : List S_api_CvPass).flatMap cel84) ((c3.2 ++ ([(⟨x10.From, x10.To⟩ : S_api_CvPass)] : List S_api_CvPass)).flatMap cel84)]) tt_ok mixed (ks := [1, 2, 5, 6]) (hs := [.no, .no, .no, .no, .no, .no, .cells (cel5 x8), .no, .no, .no, .no, .no, .no, .no, .no, .no, .call [(di ((IntKind.i64.wrap x6).tmod (p_r.Points.length : Int))), (di (w64 (((IntKind.i64.wrap x6).tmod (p_r.Points.length : Int)) + ((IntKind.i64.wrap x8).tmod (w64 ((p_r.Points.length : Int) - ((IntKind.i64.wrap x6).tmod (p_r.Points.length : Int))))))))] (.d (.agg [(di x10.From), (di x10.To)])), .no, .list (c3.2 ++ ([(⟨x10.From, x10.To⟩ : S_api_CvPass)] : List S_api_CvPass)).length ((c3.2 ++ ([(⟨x10.From, x10.To⟩ : S_api_CvPass)] : List S_api_CvPass)).flatMap cel84)]) (m := 18) (mid := [1, 2, 5, 6, 29, 46, 47]) (by kernel_rfl) (And.intro (idxOk cel5_len hx8) (And.intro ((need_of hx9 : (w64 ((p_r.Points.length : Int) - ((IntKind.i64.wrap x6).tmod (p_r.Points.length : Int)))) ≠ 0)) (And.intro (ct58 hx10) (appendOk cel84_len (need_of hx11))))) ?_
      show awp _ _ _ _ _ _ _ _
      refine awp_region (T' := [(1, .d (L5 p_x)), (2, .ref 0 0), (5, .sl 2 1 0 (c3.2 ++ ([(⟨x10.From, x10.To⟩ : S_api_CvPass)] : List S_api_CvPass)).length), (6, vi (w64 (c3.1 + 2)))]) (H' := [.cells [vi p_r.Steep, .d (L58 p_r.Points)], .data ((c3.2 ++ ([(⟨x10.From, x10.To⟩ : S_api_CvPass)] : List S_api_CvPass)).flatMap cel84)]) (ps := []) tt_ok (ks := [1, 2, 5, 6]) (hs := []) (by kernel_rfl) trivial ?_
      exact awpN_wk 2 [1, 2, 5, 6] (by kernel_rfl) _ _ (by kernel_rfl) (by kernel_rfl) (hrn4 ((w64 (c3.1 + 2)), (c3.2 ++ ([(⟨x10.From, x10.To⟩ : S_api_CvPass)] : List S_api_CvPass))) h)
    · rw [if_neg (ntrue hb5)] at h
      refine awp_exit ?_
      obtain rfl := Option.some.inj h
      exact Sel.mk [0, 1] [5] (by kernel_rfl) (by kernel_rfl) (by kernel_rfl) OutQ.norm
  · intro e T H hq
    cases o2 with
    | inl ro2 =>
      obtain ⟨rfl, rfl, rfl⟩ := hq
      rw [outK_inl] at h
      obtain rfl := Option.some.inj h
      exact main_ret (by kernel_rfl)
    | inr so2 =>
      obtain ⟨rfl, rfl, rfl⟩ := hq
      rw [outK_inr] at h
      show awp _ _ _ _ _ _ _ _
      refine awp_sreg tt_ok (ks := [4]) (hs := []) [(4, .sl 2 1 0 so2.length)] [.cells [vi p_r.Steep, .d (L58 p_r.Points)], .data (so2.flatMap cel84)] [] (by kernel_rfl) trivial ?_
      obtain rfl := Option.some.inj h
      refine awp_wk 2 [4] (by kernel_rfl) [(4, .sl 2 1 0 so2.length)] [.cells [vi p_r.Steep, .d (L58 p_r.Points)], .data (so2.flatMap cel84)] (by kernel_rfl) (by kernel_rfl) ?_
      refine awp_freeze 4 1 (so2.flatMap cel84) (.sl 2 1 0 so2.length) (.d (L84 so2)) _ _ (ps := [(so2.flatMap cel84).length = so2.length * 2]) (by kernel_rfl) (by kernel_rfl) (by kernel_rfl) (flatMap_len cel84 2 cel84_len so2) rfl rfl ?_
      refine awp_wk 2 [4] (by kernel_rfl) [(4, .d (L84 so2))] [.cells [vi p_r.Steep, .d (L58 p_r.Points)], .data (([] : List S_api_CvPass).flatMap cel84)] (by kernel_rfl) (by kernel_rfl) ?_
      exact awp_ret (main_ret (by kernel_rfl))

set_option maxRecDepth 100000 in
theorem ct59v1 {fuel : Nat}  {p_r : S_api_CvRow} {a0 : List Int} {res : S_carve_row × Int} (h : F59v1 fuel p_r a0 = some res) : HCall Try.prog 59 [.d (.agg [(di p_r.Steep), (L58 p_r.Points)]), .sl 1 0 0 a0.length] [.fixed (a0.flatMap cel3)] (.tup [.d (.agg [(di res.1.CvRow.Steep), (L58 res.1.CvRow.Points)]), vi res.2]) [.fixed (a0.flatMap cel3)] := by
  refine HCall.of_awpS tt_ok (N := 30) (fl := 1) Try.func59 rfl (by kernel_rfl) rfl rfl (Nat.le_of_ble_eq_true rfl) ?_
  unfold F59v1 at h
  refine awp_sreg tt_ok (ks := [1, 2, 4]) (hs := []) [(1, .sl 1 0 0 a0.length), (2, .ref 1 0), (4, .ref 2 0)] [.fixed (a0.flatMap cel3), .cells [vi p_r.Steep, .d (L58 p_r.Points)], .cells [vi 0, .d dnil]] [] (by kernel_rfl) trivial ?_
  refine awp_seq ?_
  obtain ⟨x1, hx1, h⟩ := Option.bind_eq_some_iff.1 h
  refine awp_sreg tt_ok (ks := [1, 2, 4, 5]) (hs := [.no, .call [(.agg [(di p_r.Steep), (L58 p_r.Points)])] (.tup [vi x1.1, vi x1.2.1, vi x1.2.2])]) [(1, .sl 1 0 0 a0.length), (2, .ref 1 0), (4, .ref 2 0), (5, vi x1.2.2)] [.fixed (a0.flatMap cel3), .cells [vi p_r.Steep, .d (L58 p_r.Points)], .cells [vi 0, .d dnil]] [PCall Try.prog 16 [(.agg [(di p_r.Steep), (L58 p_r.Points)])] (.tup [vi x1.1, vi x1.2.1, vi x1.2.2])] (by kernel_rfl) (ct16 hx1) ?_
  refine awp_sreg tt_ok (ks := [1, 2, 4, 5, 13]) (hs := []) [(1, .sl 1 0 0 a0.length), (2, .ref 1 0), (4, .ref 2 0), (5, vi x1.2.2), (13, vb (x1.2.2 != 0))] [.fixed (a0.flatMap cel3), .cells [vi p_r.Steep, .d (L58 p_r.Points)], .cells [vi 0, .d dnil]] [] (by kernel_rfl) trivial ?_
  refine awp_cond (b := (x1.2.2 != 0)) (by kernel_rfl) (fun hb2 => ?_) (fun hb2 => ?_)
  · rw [if_pos hb2] at h
    refine awp_sreg tt_ok (ks := [4, 5]) (hs := []) [(4, .ref 2 0), (5, vi x1.2.2)] [.fixed (a0.flatMap cel3), .cells [vi p_r.Steep, .d (L58 p_r.Points)], .cells [vi 0, .d dnil]] [] (by kernel_rfl) trivial ?_
    obtain rfl := Option.some.inj h
    refine awp_wk 3 [4, 5] (by kernel_rfl) [(4, .ref 2 0), (5, vi x1.2.2)] [.fixed (a0.flatMap cel3), .cells [vi p_r.Steep, .d (L58 p_r.Points)], .cells [vi 0, .d dnil]] (by kernel_rfl) (by kernel_rfl) ?_
    refine awp_laxC 2 1 _ (L58 ([] : List S_api_CvPoint)) [vi 0, .d dnil] _ (by kernel_rfl) (by kernel_rfl) (.nil (e := 3)) rfl ?_
    refine awp_wk 3 [4, 5] (by kernel_rfl) [(4, .ref 2 0), (5, vi x1.2.2)] [.fixed (a0.flatMap cel3), .cells [vi p_r.Steep, .d (L58 p_r.Points)], .cells [vi 0, .d (L58 ([] : List S_api_CvPoint))]] (by kernel_rfl) (by kernel_rfl) ?_
    exact awp_ret (main_retS [0] (.tup [.d (.agg [(di 0), (L58 ([] : List S_api_CvPoint))]), vi x1.2.2]) (by kernel_rfl) (by kernel_rfl) (by kernel_rfl) (by kernel_rfl))
  · rw [if_neg (ntrue hb2)] at h
    refine awp_skip ?_
    show awp _ _ _ _ _ _ _ _
    refine awp_seq ?_
    refine awp_block ?_
    refine awp_sreg tt_ok (ks := [1, 2, 4, 16]) (hs := []) [(1, .sl 1 0 0 a0.length), (2, .ref 1 0), (4, .ref 2 0), (16, vb ((a0.length : Int) != (p_r.Points.length : Int)))] [.fixed (a0.flatMap cel3), .cells [vi p_r.Steep, .d (L58 p_r.Points)], .cells [vi 0, .d dnil]] [] (by kernel_rfl) trivial ?_
    refine awp_cond (b := ((a0.length : Int) != (p_r.Points.length : Int))) (by kernel_rfl) (fun hb3 => ?_) (fun hb3 => ?_)
    · rw [if_pos hb3] at h
      refine awp_sreg tt_ok (ks := [4, 5]) (hs := []) [(4, .ref 2 0), (5, vi 3)] [.fixed (a0.flatMap cel3), .cells [vi p_r.Steep, .d (L58 p_r.Points)], .cells [vi 0, .d dnil]] [] (by kernel_rfl) trivial ?_
      obtain rfl := Option.some.inj h
      refine awp_wk 3 [4, 5] (by kernel_rfl) [(4, .ref 2 0), (5, vi 3)] [.fixed (a0.flatMap cel3), .cells [vi p_r.Steep, .d (L58 p_r.Points)], .cells [vi 0, .d dnil]] (by kernel_rfl) (by kernel_rfl) ?_
      refine awp_laxC 2 1 _ (L58 ([] : List S_api_CvPoint)) [vi 0, .d dnil] _ (by kernel_rfl) (by kernel_rfl) (.nil (e := 3)) rfl ?_
      refine awp_wk 3 [4, 5] (by kernel_rfl) [(4, .ref 2 0), (5, vi 3)] [.fixed (a0.flatMap cel3), .cells [vi p_r.Steep, .d (L58 p_r.Points)], .cells [vi 0, .d (L58 ([] : List S_api_CvPoint))]] (by kernel_rfl) (by kernel_rfl) ?_
      exact awp_ret (main_retS [0] (.tup [.d (.agg [(di 0), (L58 ([] : List S_api_CvPoint))]), vi 3]) (by kernel_rfl) (by kernel_rfl) (by kernel_rfl) (by kernel_rfl))
    · rw [if_neg (ntrue hb3)] at h
      obtain ⟨x4, hx4, h⟩ := Option.bind_eq_some_iff.1 h
      refine awp_sreg tt_ok (ks := [2, 4, 24]) (hs := [.no, .call [(di 0), (di 9000), (L3 a0)] (vb x4)]) [(2, .ref 1 0), (4, .ref 2 0), (24, vb x4)] [.fixed (a0.flatMap cel3), .cells [vi p_r.Steep, .d (L58 p_r.Points)], .cells [vi 0, .d dnil]] [argsOk [.fixed (a0.flatMap cel3), .cells [vi p_r.Steep, .d (L58 p_r.Points)], .cells [vi 0, .d dnil]] [vi 0, vi 9000, .sl 1 0 0 a0.length] [(di 0), (di 9000), (L3 a0)], PCall Try.prog 49 [(di 0), (di 9000), (L3 a0)] (vb x4)] (by kernel_rfl) (And.intro ((And.intro (rfl) (And.intro (rfl) (And.intro (lentOkF cel3_len rfl) trivial)))) (ct49 hx4)) ?_
      refine awp_cond (b := x4) (by kernel_rfl) (fun hb5 => ?_) (fun hb5 => ?_)
      · rw [if_pos hb5] at h
        refine awp_sreg tt_ok (ks := [4, 5]) (hs := []) [(4, .ref 2 0), (5, vi 7)] [.fixed (a0.flatMap cel3), .cells [vi p_r.Steep, .d (L58 p_r.Points)], .cells [vi 0, .d dnil]] [] (by kernel_rfl) trivial ?_
        obtain rfl := Option.some.inj h
        refine awp_wk 3 [4, 5] (by kernel_rfl) [(4, .ref 2 0), (5, vi 7)] [.fixed (a0.flatMap cel3), .cells [vi p_r.Steep, .d (L58 p_r.Points)], .cells [vi 0, .d dnil]] (by kernel_rfl) (by kernel_rfl) ?_
        refine awp_laxC 2 1 _ (L58 ([] : List S_api_CvPoint)) [vi 0, .d dnil] _ (by kernel_rfl) (by kernel_rfl) (.nil (e := 3)) rfl ?_
        refine awp_wk 3 [4, 5] (by kernel_rfl) [(4, .ref 2 0), (5, vi 7)] [.fixed (a0.flatMap cel3), .cells [vi p_r.Steep, .d (L58 p_r.Points)], .cells [vi 0, .d (L58 ([] : List S_api_CvPoint))]] (by kernel_rfl) (by kernel_rfl) ?_
        exact awp_ret (main_retS [0] (.tup [.d (.agg [(di 0), (L58 ([] : List S_api_CvPoint))]), vi 7]) (by kernel_rfl) (by kernel_rfl) (by kernel_rfl) (by kernel_rfl))
      · rw [if_neg (ntrue hb5)] at h
        refine awp_skip ?_
        show awp _ _ _ _ _ _ _ _
        refine awp_sreg tt_ok (ks := [4, 5]) (hs := []) [(4, .ref 2 0), (5, vi 0)] [.fixed (a0.flatMap cel3), .cells [vi p_r.Steep, .d (L58 p_r.Points)], .cells [vi p_r.Steep, .d (L58 p_r.Points)]] [] (by kernel_rfl) trivial ?_
        obtain rfl := Option.some.inj h
        refine awp_wk 3 [4, 5] (by kernel_rfl) [(4, .ref 2 0), (5, vi 0)] [.fixed (a0.flatMap cel3), .cells [vi p_r.Steep, .d (L58 p_r.Points)], .cells [vi p_r.Steep, .d (L58 p_r.Points)]] (by kernel_rfl) (by kernel_rfl) ?_
        exact awp_ret (main_retS [0] (.tup [.d (.agg [(di p_r.Steep), (L58 p_r.Points)]), vi 0]) (by kernel_rfl) (by kernel_rfl) (by kernel_rfl) (by kernel_rfl))

set_option maxRecDepth 100000 in
theorem ct30v1 {fuel : Nat}  {p_r : S_api_CvRow} {a0 : List Int} {res : (List S_api_CvPass) × Int} (h : F30v1 fuel p_r a0 = some res) : HCall Try.prog 30 [.d (.agg [(di p_r.Steep), (L58 p_r.Points)]), .sl 1 0 0 a0.length] [.fixed (a0.flatMap cel3)] (.tup [.d (L84 res.1), vi res.2]) [.fixed (a0.flatMap cel3)] := by
  refine HCall.of_awpS tt_ok (N := 105) (fl := 1) Try.func30 rfl (by kernel_rfl) rfl rfl (Nat.le_of_ble_eq_true rfl) ?_
  unfold F30v1 at h
  refine awp_sreg tt_ok (ks := [1, 2, 4]) (hs := []) [(1, .sl 1 0 0 a0.length), (2, .ref 1 0), (4, .d dnil)] [.fixed (a0.flatMap cel3), .cells [vi p_r.Steep, .d (L58 p_r.Points)]] [] (by kernel_rfl) trivial ?_
  obtain ⟨x1, hx1, h⟩ := Option.bind_eq_some_iff.1 h
  refine awp_sreg tt_ok (ks := [1, 2, 4, 5, 6]) (hs := [.no, .no, .hcall [(0, false)] (.tup [.d (.agg [(di x1.1.CvRow.Steep), (L58 x1.1.CvRow.Points)]), vi x1.2]) [.fixed (a0.flatMap cel3)]]) [(1, .sl 1 0 0 a0.length), (2, .ref 1 0), (4, .d dnil), (5, vi x1.2), (6, .ref 2 0)] [.fixed (a0.flatMap cel3), .cells [vi p_r.Steep, .d (L58 p_r.Points)], .cells [vi x1.1.CvRow.Steep, .d (L58 x1.1.CvRow.Points)]] [HCall Try.prog 59 [.d (.agg [(di p_r.Steep), (L58 p_r.Points)]), .sl 1 0 0 a0.length] [.fixed (a0.flatMap cel3)] (.tup [.d (.agg [(di x1.1.CvRow.Steep), (L58 x1.1.CvRow.Points)]), vi x1.2]) [.fixed (a0.flatMap cel3)]] (by kernel_rfl) (ct59v1 hx1) ?_
  refine awp_seq ?_
  refine awp_sreg tt_ok (ks := [1, 2, 4, 5, 6, 23]) (hs := []) [(1, .sl 1 0 0 a0.length), (2, .ref 1 0), (4, .d dnil), (5, vi x1.2), (6, .ref 2 0), (23, vb (x1.2 != 0))] [.fixed (a0.flatMap cel3), .cells [vi p_r.Steep, .d (L58 p_r.Points)], .cells [vi x1.1.CvRow.Steep, .d (L58 x1.1.CvRow.Points)]] [] (by kernel_rfl) trivial ?_
  refine awp_cond (b := (x1.2 != 0)) (by kernel_rfl) (fun hb2 => ?_) (fun hb2 => ?_)
  · rw [if_pos hb2] at h
    refine awp_sreg tt_ok (ks := [4, 5]) (hs := []) [(4, .d dnil), (5, vi x1.2)] [.fixed (a0.flatMap cel3), .cells [vi p_r.Steep, .d (L58 p_r.Points)], .cells [vi x1.1.CvRow.Steep, .d (L58 x1.1.CvRow.Points)]] [] (by kernel_rfl) trivial ?_
    obtain rfl := Option.some.inj h
    refine awp_wk 3 [4, 5] (by kernel_rfl) [(4, .d dnil), (5, vi x1.2)] [.fixed (a0.flatMap cel3), .cells [vi p_r.Steep, .d (L58 p_r.Points)], .cells [vi x1.1.CvRow.Steep, .d (L58 x1.1.CvRow.Points)]] (by kernel_rfl) (by kernel_rfl) ?_
    refine awp_laxT 4 _ (L84 ([] : List S_api_CvPass)) _ (by kernel_rfl) (.nil (e := 2)) rfl ?_
    refine awp_wk 3 [4, 5] (by kernel_rfl) [(4, .d (L84 ([] : List S_api_CvPass))), (5, vi x1.2)] [.fixed (a0.flatMap cel3), .cells [vi p_r.Steep, .d (L58 p_r.Points)], .cells [vi x1.1.CvRow.Steep, .d (L58 x1.1.CvRow.Points)]] (by kernel_rfl) (by kernel_rfl) ?_
    exact awp_ret (main_retS [0] (.tup [.d (L84 ([] : List S_api_CvPass)), vi x1.2]) (by kernel_rfl) (by kernel_rfl) (by kernel_rfl) (by kernel_rfl))
  · rw [if_neg (ntrue hb2)] at h
    refine awp_skip ?_
    show awp _ _ _ _ _ _ _ _
    obtain ⟨x3, hx3, h⟩ := Option.bind_eq_some_iff.1 h
    refine awp_sreg tt_ok (ks := [1, 4, 6, 7]) (hs := [.no, .no, .no, .no, .list (List.replicate (w64 ((p_r.Points.length : Int) + 1)).toNat (0 : Int)).length ((List.replicate (w64 ((p_r.Points.length : Int) + 1)).toNat (0 : Int)).flatMap cel3)]) [(1, .sl 1 0 0 a0.length), (4, .d dnil), (6, .ref 2 0), (7, .sl 1 3 0 (List.replicate (w64 ((p_r.Points.length : Int) + 1)).toNat (0 : Int)).length)] [.fixed (a0.flatMap cel3), .cells [vi p_r.Steep, .d (L58 p_r.Points)], .cells [vi x1.1.CvRow.Steep, .d (L58 x1.1.CvRow.Points)], .data ((List.replicate (w64 ((p_r.Points.length : Int) + 1)).toNat (0 : Int)).flatMap cel3)] [MakeOk (w64 ((p_r.Points.length : Int) + 1)) (w64 ((p_r.Points.length : Int) + 1)) (List.replicate (w64 ((p_r.Points.length : Int) + 1)).toNat (0 : Int)).length 8 [.int .i64 0] ((List.replicate (w64 ((p_r.Points.length : Int) + 1)).toNat (0 : Int)).flatMap cel3)] (by kernel_rfl) (makeOk rfl (need_of hx3)) ?_
    refine awp_sreg tt_ok (ks := [1, 4, 6, 7, 8, 9]) (hs := []) [(1, .sl 1 0 0 a0.length), (4, .d dnil), (6, .ref 2 0), (7, .sl 1 3 0 (List.replicate (w64 ((p_r.Points.length : Int) + 1)).toNat (0 : Int)).length), (8, vi 0), (9, vi 0)] [.fixed (a0.flatMap cel3), .cells [vi p_r.Steep, .d (L58 p_r.Points)], .cells [vi x1.1.CvRow.Steep, .d (L58 x1.1.CvRow.Points)], .data ((List.replicate (w64 ((p_r.Points.length : Int) + 1)).toNat (0 : Int)).flatMap cel3)] [] (by kernel_rfl) trivial ?_
    refine awp_seq ?_
    refine awp_sreg tt_ok (ks := [1, 4, 7, 8, 9, 32, 33, 34]) (hs := []) [(1, .sl 1 0 0 a0.length), (4, .d dnil), (7, .sl 1 3 0 (List.replicate (w64 ((p_r.Points.length : Int) + 1)).toNat (0 : Int)).length), (8, vi 0), (9, vi 0), (32, .d (L58 x1.1.CvRow.Points)), (33, vi (x1.1.CvRow.Points.length : Int)), (34, vi 0)] [.fixed (a0.flatMap cel3), .cells [vi p_r.Steep, .d (L58 p_r.Points)], .cells [vi x1.1.CvRow.Steep, .d (L58 x1.1.CvRow.Points)], .data ((List.replicate (w64 ((p_r.Points.length : Int) + 1)).toNat (0 : Int)).flatMap cel3)] [] (by kernel_rfl) trivial ?_
    obtain ⟨o4, ho4, h⟩ := Option.bind_eq_some_iff.1 h
    refine awp_cut1 (OutQ (fun (ro4 : (List S_api_CvPass) × Int) => [(4, .d (L84 ro4.1)), (5, vi ro4.2)]) (fun (ro4 : (List S_api_CvPass) × Int) => [.fixed (a0.flatMap cel3)]) (fun (so4 : Int × (List Int)) => [(4, .d dnil), (7, .sl 1 3 0 so4.2.length), (8, vi so4.1)]) (fun (so4 : Int × (List Int)) => [.fixed (a0.flatMap cel3), .cells [vi p_r.Steep, .d (L58 p_r.Points)], .cells [vi x1.1.CvRow.Steep, .d (L58 x1.1.CvRow.Points)], .data (so4.2.flatMap cel3)]) o4) ?_ ?_
    · clear h
      have h := ho4
      clear ho4
      refine awp_selQ ?_
      refine awp_wk 4 [1, 4, 7, 8, 9, 32, 33, 34] (by kernel_rfl) [(1, .sl 1 0 0 a0.length), (4, .d dnil), (7, .sl 1 3 0 (List.replicate (w64 ((p_r.Points.length : Int) + 1)).toNat (0 : Int)).length), (8, vi 0), (9, vi 0), (32, .d (L58 x1.1.CvRow.Points)), (33, vi (x1.1.CvRow.Points.length : Int)), (34, vi 0)] [.fixed (a0.flatMap cel3), .cells [vi p_r.Steep, .d (L58 p_r.Points)], .cells [vi x1.1.CvRow.Steep, .d (L58 x1.1.CvRow.Points)], .data ((List.replicate (w64 ((p_r.Points.length : Int) + 1)).toNat (0 : Int)).flatMap cel3)] (by kernel_rfl) (by kernel_rfl) ?_
      refine awp_block ?_
      refine awp_loop (n := fuel) ?_
      refine awpN_ind (fun n (c5 : Int × Int × Int × (List Int)) => F30v1L1 a0 x1 n c5) o4 (fun (c5 : Int × Int × Int × (List Int)) => [(1, .sl 1 0 0 a0.length), (4, .d dnil), (7, .sl 1 3 0 c5.2.2.2.length), (8, vi c5.1), (9, vi c5.2.1), (32, .d (L58 x1.1.CvRow.Points)), (33, vi (x1.1.CvRow.Points.length : Int)), (34, vi c5.2.2.1)]) (fun (c5 : Int × Int × Int × (List Int)) => [.fixed (a0.flatMap cel3), .cells [vi p_r.Steep, .d (L58 p_r.Points)], .cells [vi x1.1.CvRow.Steep, .d (L58 x1.1.CvRow.Points)], .data (c5.2.2.2.flatMap cel3)]) (fun _ => rfl) ?_ fuel (0, 0, 0, (List.replicate (w64 ((p_r.Points.length : Int) + 1)).toNat (0 : Int))) h
      clear h
      intro n6 c5 h hrn6
      change F30v1L1 a0 x1 (n6 + 1) c5 = some o4 at h
      rw [F30v1L1] at h
      refine awp_sreg tt_ok (ks := [1, 4, 7, 8, 9, 32, 33, 34, 35]) (hs := []) [(1, .sl 1 0 0 a0.length), (4, .d dnil), (7, .sl 1 3 0 c5.2.2.2.length), (8, vi c5.1), (9, vi c5.2.1), (32, .d (L58 x1.1.CvRow.Points)), (33, vi (x1.1.CvRow.Points.length : Int)), (34, vi c5.2.2.1), (35, vb (decide (c5.2.2.1 < (x1.1.CvRow.Points.length : Int))))] [.fixed (a0.flatMap cel3), .cells [vi p_r.Steep, .d (L58 p_r.Points)], .cells [vi x1.1.CvRow.Steep, .d (L58 x1.1.CvRow.Points)], .data (c5.2.2.2.flatMap cel3)] [] (by kernel_rfl) trivial ?_
      refine awp_seq ?_
      refine awp_cond (b := (decide (c5.2.2.1 < (x1.1.CvRow.Points.length : Int)))) (by kernel_rfl) (fun hb7 => ?_) (fun hb7 => ?_)
      · rw [if_pos hb7] at h
        refine awp_skip ?_
        show awp _ _ _ _ _ _ _ _
        refine awp_seq ?_
        refine awp_block ?_
        obtain ⟨x8, hx8, h⟩ := Option.bind_eq_some_iff.1 h
        refine awp_sreg tt_ok (ks := [1, 4, 7, 8, 9, 10, 11, 32, 33, 34]) (hs := [.no, .cells (cel58 x8)]) [(1, .sl 1 0 0 a0.length), (4, .d dnil), (7, .sl 1 3 0 c5.2.2.2.length), (8, vi c5.1), (9, vi c5.2.1), (10, vi c5.2.2.1), (11, .ref 4 0), (32, .d (L58 x1.1.CvRow.Points)), (33, vi (x1.1.CvRow.Points.length : Int)), (34, vi c5.2.2.1)] [.fixed (a0.flatMap cel3), .cells [vi p_r.Steep, .d (L58 p_r.Points)], .cells [vi x1.1.CvRow.Steep, .d (L58 x1.1.CvRow.Points)], .data (c5.2.2.2.flatMap cel3), .cells [vi x8.Board, vi x8.Lo, vi x8.Hi]] [IX58 x1.1.CvRow.Points c5.2.2.1 x8] (by kernel_rfl) (idxOk cel58_len hx8) ?_
        obtain ⟨x9, hx9, h⟩ := Option.bind_eq_some_iff.1 h
        obtain ⟨x10, hx10, h⟩ := Option.bind_eq_some_iff.1 h
        refine awp_sdraw tt_ok mixed (ks := [1, 4, 7, 8, 9, 10, 32, 33, 34]) (hs := [.no, .no, .no, .no, .no, .no, .no, .vals (([(di x9)] : List D).map .d), .no, .no, .no, .cells ((c5.2.2.2.set c5.2.2.1.toNat (if (w64 (x8.Board - x9)) > 0 then (w64 (x8.Board - x9)) else 0)).flatMap cel3)]) 10 [1, 4, 7, 8, 9, 10, 32, 33, 34, 39, 40, 48, 49] [(1, .sl 1 0 0 a0.length), (4, .d dnil), (7, .sl 1 3 0 c5.2.2.2.length), (8, vi c5.1), (9, vi c5.2.1), (10, vi c5.2.2.1), (32, .d (L58 x1.1.CvRow.Points)), (33, vi (x1.1.CvRow.Points.length : Int)), (34, vi c5.2.2.1)] [.fixed (a0.flatMap cel3), .cells [vi p_r.Steep, .d (L58 p_r.Points)], .cells [vi x1.1.CvRow.Steep, .d (L58 x1.1.CvRow.Points)], .data ((c5.2.2.2.set c5.2.2.1.toNat (if (w64 (x8.Board - x9)) > 0 then (w64 (x8.Board - x9)) else 0)).flatMap cel3), .cells [vi x8.Board, vi x8.Lo, vi x8.Hi]] [(0 ≤ c5.2.2.1 ∧ c5.2.2.1 < (a0.length : Int)), LoadOk ((a0.flatMap cel3).map .d) (0 + c5.2.2.1.toNat * 1) 1 (([(di x9)] : List D).map .d), (0 ≤ c5.2.2.1 ∧ c5.2.2.1 < (c5.2.2.2.length : Int)), StoreOk ((c5.2.2.2.flatMap cel3).map .d) (0 + c5.2.2.1.toNat * 1) (([(di (if (w64 (x8.Board - x9)) > 0 then (w64 (x8.Board - x9)) else 0))] : List D).map .d) (((c5.2.2.2.set c5.2.2.1.toNat (if (w64 (x8.Board - x9)) > 0 then (w64 (x8.Board - x9)) else 0)).flatMap cel3).map .d)] (by kernel_rfl) (And.intro (idx_bounds hx9) (And.intro (loadOk (j := 0) (es := ([(di x9)] : List D)) cel3_len hx9 rfl rfl rfl (Nat.le_of_ble_eq_true rfl)) (And.intro (idx_bounds hx10) (storeOk (j := 0) (us := ([(di (if (w64 (x8.Board - x9)) > 0 then (w64 (x8.Board - x9)) else 0))] : List D)) (y := (if (w64 (x8.Board - x9)) > 0 then (w64 (x8.Board - x9)) else 0)) cel3_len hx10 rfl rfl (Nat.le_of_ble_eq_true rfl))))) ?_
        obtain ⟨x11, hx11, h⟩ := Option.bind_eq_some_iff.1 h
        refine awp_sreg tt_ok (ks := [1, 4, 7, 8, 10, 32, 33, 34]) (hs := [.no, .no, .no, .no, .vals (([(di x11)] : List D).map .d)]) [(1, .sl 1 0 0 a0.length), (4, .d dnil), (7, .sl 1 3 0 c5.2.2.2.length), (8, vi (w64 (c5.1 + (if (w64 (x11 - c5.2.1)) > 0 then (w64 (x11 - c5.2.1)) else 0)))), (10, vi c5.2.2.1), (32, .d (L58 x1.1.CvRow.Points)), (33, vi (x1.1.CvRow.Points.length : Int)), (34, vi c5.2.2.1)] [.fixed (a0.flatMap cel3), .cells [vi p_r.Steep, .d (L58 p_r.Points)], .cells [vi x1.1.CvRow.Steep, .d (L58 x1.1.CvRow.Points)], .data ((c5.2.2.2.set c5.2.2.1.toNat (if (w64 (x8.Board - x9)) > 0 then (w64 (x8.Board - x9)) else 0)).flatMap cel3), .cells [vi x8.Board, vi x8.Lo, vi x8.Hi]] [(0 ≤ c5.2.2.1 ∧ c5.2.2.1 < (c5.2.2.2.length : Int)), LoadOk (((c5.2.2.2.set c5.2.2.1.toNat (if (w64 (x8.Board - x9)) > 0 then (w64 (x8.Board - x9)) else 0)).flatMap cel3).map .d) (0 + c5.2.2.1.toNat * 1) 1 (([(di x11)] : List D).map .d)] (by kernel_rfl) (And.intro ((by have h0 := idx_bounds hx11; simp only [List.length_set] at h0; exact h0)) (loadOk (j := 0) (es := ([(di x11)] : List D)) cel3_len hx11 rfl rfl rfl (Nat.le_of_ble_eq_true rfl))) ?_
        obtain ⟨x12, hx12, h⟩ := Option.bind_eq_some_iff.1 h
        refine awp_region (T' := [(1, .sl 1 0 0 a0.length), (4, .d dnil), (7, .sl 1 3 0 c5.2.2.2.length), (8, vi (w64 (c5.1 + (if (w64 (x11 - c5.2.1)) > 0 then (w64 (x11 - c5.2.1)) else 0)))), (9, vi x12), (32, .d (L58 x1.1.CvRow.Points)), (33, vi (x1.1.CvRow.Points.length : Int)), (34, vi c5.2.2.1)]) (H' := [.fixed (a0.flatMap cel3), .cells [vi p_r.Steep, .d (L58 p_r.Points)], .cells [vi x1.1.CvRow.Steep, .d (L58 x1.1.CvRow.Points)], .data ((c5.2.2.2.set c5.2.2.1.toNat (if (w64 (x8.Board - x9)) > 0 then (w64 (x8.Board - x9)) else 0)).flatMap cel3), .cells [vi x8.Board, vi x8.Lo, vi x8.Hi]]) (ps := [(0 ≤ c5.2.2.1 ∧ c5.2.2.1 < (c5.2.2.2.length : Int)), LoadOk (((c5.2.2.2.set c5.2.2.1.toNat (if (w64 (x8.Board - x9)) > 0 then (w64 (x8.Board - x9)) else 0)).flatMap cel3).map .d) (0 + c5.2.2.1.toNat * 1) 1 (([(di x12)] : List D).map .d)]) tt_ok (ks := [1, 4, 7, 8, 9, 32, 33, 34]) (hs := [.no, .no, .no, .vals (([(di x12)] : List D).map .d)]) (by kernel_rfl) (And.intro ((by have h0 := idx_bounds hx12; simp only [List.length_set] at h0; exact h0)) (loadOk (j := 0) (es := ([(di x12)] : List D)) cel3_len hx12 rfl rfl rfl (Nat.le_of_ble_eq_true rfl))) ?_
        show awp _ _ _ _ _ _ _ _
        refine awp_region (T' := [(1, .sl 1 0 0 a0.length), (4, .d dnil), (7, .sl 1 3 0 c5.2.2.2.length), (8, vi (w64 (c5.1 + (if (w64 (x11 - c5.2.1)) > 0 then (w64 (x11 - c5.2.1)) else 0)))), (9, vi x12), (32, .d (L58 x1.1.CvRow.Points)), (33, vi (x1.1.CvRow.Points.length : Int)), (34, vi (w64 (c5.2.2.1 + 1)))]) (H' := [.fixed (a0.flatMap cel3), .cells [vi p_r.Steep, .d (L58 p_r.Points)], .cells [vi x1.1.CvRow.Steep, .d (L58 x1.1.CvRow.Points)], .data ((c5.2.2.2.set c5.2.2.1.toNat (if (w64 (x8.Board - x9)) > 0 then (w64 (x8.Board - x9)) else 0)).flatMap cel3), .cells [vi x8.Board, vi x8.Lo, vi x8.Hi]]) (ps := []) tt_ok (ks := [1, 4, 7, 8, 9, 32, 33, 34]) (hs := []) (by kernel_rfl) trivial ?_
        exact awpN_wk 4 [1, 4, 7, 8, 9, 32, 33, 34] (by kernel_rfl) _ _ (by simp only [List.length_set]; kernel_rfl) (by kernel_rfl) (hrn6 ((w64 (c5.1 + (if (w64 (x11 - c5.2.1)) > 0 then (w64 (x11 - c5.2.1)) else 0))), x12, (w64 (c5.2.2.1 + 1)), (c5.2.2.2.set c5.2.2.1.toNat (if (w64 (x8.Board - x9)) > 0 then (w64 (x8.Board - x9)) else 0))) h)
      · rw [if_neg (ntrue hb7)] at h
        refine awp_exit ?_
        obtain rfl := Option.some.inj h
        exact Sel.mk [0, 1, 2, 3] [4, 7, 8] (by kernel_rfl) (by kernel_rfl) (by kernel_rfl) OutQ.norm
    · intro e T H hq
      cases o4 with
      | inl ro4 =>
        obtain ⟨rfl, rfl, rfl⟩ := hq
        rw [outK_inl] at h
        obtain rfl := Option.some.inj h
        exact (main_retS [0] (.tup [.d (L84 ro4.1), vi ro4.2]) (by kernel_rfl) (by kernel_rfl) (by kernel_rfl) (by kernel_rfl))
      | inr so4 =>
        obtain ⟨rfl, rfl, rfl⟩ := hq
        rw [outK_inr] at h
        show awp _ _ _ _ _ _ _ _
        refine awp_seq ?_
        refine awp_sreg tt_ok (ks := [4, 7, 65]) (hs := []) [(4, .d dnil), (7, .sl 1 3 0 so4.2.length), (65, vb (decide (so4.1 > 60)))] [.fixed (a0.flatMap cel3), .cells [vi p_r.Steep, .d (L58 p_r.Points)], .cells [vi x1.1.CvRow.Steep, .d (L58 x1.1.CvRow.Points)], .data (so4.2.flatMap cel3)] [] (by kernel_rfl) trivial ?_
        refine awp_cond (b := (decide (so4.1 > 60))) (by kernel_rfl) (fun hb13 => ?_) (fun hb13 => ?_)
        · rw [if_pos hb13] at h
          refine awp_sreg tt_ok (ks := [4, 5]) (hs := []) [(4, .d dnil), (5, vi 9)] [.fixed (a0.flatMap cel3), .cells [vi p_r.Steep, .d (L58 p_r.Points)], .cells [vi x1.1.CvRow.Steep, .d (L58 x1.1.CvRow.Points)], .data (so4.2.flatMap cel3)] [] (by kernel_rfl) trivial ?_
          obtain rfl := Option.some.inj h
          refine awp_wk 4 [4, 5] (by kernel_rfl) [(4, .d dnil), (5, vi 9)] [.fixed (a0.flatMap cel3), .cells [vi p_r.Steep, .d (L58 p_r.Points)], .cells [vi x1.1.CvRow.Steep, .d (L58 x1.1.CvRow.Points)], .data (so4.2.flatMap cel3)] (by kernel_rfl) (by kernel_rfl) ?_
          refine awp_laxT 4 _ (L84 ([] : List S_api_CvPass)) _ (by kernel_rfl) (.nil (e := 2)) rfl ?_
          refine awp_wk 4 [4, 5] (by kernel_rfl) [(4, .d (L84 ([] : List S_api_CvPass))), (5, vi 9)] [.fixed (a0.flatMap cel3), .cells [vi p_r.Steep, .d (L58 p_r.Points)], .cells [vi x1.1.CvRow.Steep, .d (L58 x1.1.CvRow.Points)], .data (so4.2.flatMap cel3)] (by kernel_rfl) (by kernel_rfl) ?_
          exact awp_ret (main_retS [0] (.tup [.d (L84 ([] : List S_api_CvPass)), vi 9]) (by kernel_rfl) (by kernel_rfl) (by kernel_rfl) (by kernel_rfl))
        · rw [if_neg (ntrue hb13)] at h
          refine awp_skip ?_
          show awp _ _ _ _ _ _ _ _
          refine awp_seq ?_
          obtain ⟨x14, hx14, h⟩ := Option.bind_eq_some_iff.1 h
          refine awp_sreg tt_ok (ks := [4, 7, 67, 68]) (hs := [.no, .call [(L3 so4.2)] (vi x14)]) [(4, .d dnil), (7, .sl 1 3 0 so4.2.length), (67, vi x14), (68, vi 0)] [.fixed (a0.flatMap cel3), .cells [vi p_r.Steep, .d (L58 p_r.Points)], .cells [vi x1.1.CvRow.Steep, .d (L58 x1.1.CvRow.Points)], .data (so4.2.flatMap cel3)] [argsOk [.fixed (a0.flatMap cel3), .cells [vi p_r.Steep, .d (L58 p_r.Points)], .cells [vi x1.1.CvRow.Steep, .d (L58 x1.1.CvRow.Points)], .data (so4.2.flatMap cel3)] [.sl 1 3 0 so4.2.length] [(L3 so4.2)], PCall Try.prog 62 [(L3 so4.2)] (vi x14)] (by kernel_rfl) (And.intro ((And.intro (lentOk cel3_len rfl) trivial)) (ct62 hx14)) ?_
          refine awp_nil 4 2 (by kernel_rfl) ?_
          refine awp_eq (T' := [(4, .sl 2 4 0 ([] : List S_api_CvPass).length), (7, .sl 1 3 0 so4.2.length), (67, vi x14), (68, vi 0)]) (H' := [.fixed (a0.flatMap cel3), .cells [vi p_r.Steep, .d (L58 p_r.Points)], .cells [vi x1.1.CvRow.Steep, .d (L58 x1.1.CvRow.Points)], .data (so4.2.flatMap cel3), .data (([] : List S_api_CvPass).flatMap cel84)]) (by kernel_rfl) (by kernel_rfl) ?_
          refine awp_wk 5 [4, 7, 67, 68] (by kernel_rfl) [(4, .sl 2 4 0 ([] : List S_api_CvPass).length), (7, .sl 1 3 0 so4.2.length), (67, vi x14), (68, vi 0)] [.fixed (a0.flatMap cel3), .cells [vi p_r.Steep, .d (L58 p_r.Points)], .cells [vi x1.1.CvRow.Steep, .d (L58 x1.1.CvRow.Points)], .data (so4.2.flatMap cel3), .data (([] : List S_api_CvPass).flatMap cel84)] (by kernel_rfl) (by kernel_rfl) ?_
          obtain ⟨o16, ho16, h⟩ := Option.bind_eq_some_iff.1 h
          refine awp_cut1 (OutQ (fun (ro16 : (List S_api_CvPass) × Int) => [(4, .d (L84 ro16.1)), (5, vi ro16.2)]) (fun (ro16 : (List S_api_CvPass) × Int) => [.fixed (a0.flatMap cel3)]) (fun (so16 : (List S_api_CvPass)) => [(4, .sl 2 4 0 so16.length)]) (fun (so16 : (List S_api_CvPass)) => [.fixed (a0.flatMap cel3), .cells [vi p_r.Steep, .d (L58 p_r.Points)], .cells [vi x1.1.CvRow.Steep, .d (L58 x1.1.CvRow.Points)], .data (so4.2.flatMap cel3), .data (so16.flatMap cel84)]) o16) ?_ ?_
          · clear h
            have h := ho16
            clear ho16
            refine awp_selQ ?_
            refine awp_wk 5 [4, 7, 67, 68] (by kernel_rfl) [(4, .sl 2 4 0 ([] : List S_api_CvPass).length), (7, .sl 1 3 0 so4.2.length), (67, vi x14), (68, vi 0)] [.fixed (a0.flatMap cel3), .cells [vi p_r.Steep, .d (L58 p_r.Points)], .cells [vi x1.1.CvRow.Steep, .d (L58 x1.1.CvRow.Points)], .data (so4.2.flatMap cel3), .data (([] : List S_api_CvPass).flatMap cel84)] (by kernel_rfl) (by kernel_rfl) ?_
            refine awp_block ?_
            refine awp_loop (n := fuel) ?_
            refine awpN_ind (fun n (c17 : Int × (List S_api_CvPass)) => F30v1L2 fuel so4 x14 n c17) o16 (fun (c17 : Int × (List S_api_CvPass)) => [(4, .sl 2 4 0 c17.2.length), (7, .sl 1 3 0 so4.2.length), (67, vi x14), (68, vi c17.1)]) (fun (c17 : Int × (List S_api_CvPass)) => [.fixed (a0.flatMap cel3), .cells [vi p_r.Steep, .d (L58 p_r.Points)], .cells [vi x1.1.CvRow.Steep, .d (L58 x1.1.CvRow.Points)], .data (so4.2.flatMap cel3), .data (c17.2.flatMap cel84)]) (fun _ => rfl) ?_ fuel (0, ([] : List S_api_CvPass)) h
            clear h
            intro n18 c17 h hrn18
            change F30v1L2 fuel so4 x14 (n18 + 1) c17 = some o16 at h
            rw [F30v1L2] at h
            refine awp_sreg tt_ok (ks := [4, 7, 67, 68, 69]) (hs := []) [(4, .sl 2 4 0 c17.2.length), (7, .sl 1 3 0 so4.2.length), (67, vi x14), (68, vi c17.1), (69, vb (decide (c17.1 < x14)))] [.fixed (a0.flatMap cel3), .cells [vi p_r.Steep, .d (L58 p_r.Points)], .cells [vi x1.1.CvRow.Steep, .d (L58 x1.1.CvRow.Points)], .data (so4.2.flatMap cel3), .data (c17.2.flatMap cel84)] [] (by kernel_rfl) trivial ?_
            refine awp_seq ?_
            refine awp_cond (b := (decide (c17.1 < x14))) (by kernel_rfl) (fun hb19 => ?_) (fun hb19 => ?_)
            · rw [if_pos hb19] at h
              refine awp_skip ?_
              show awp _ _ _ _ _ _ _ _
              refine awp_seq ?_
              refine awp_block ?_
              refine awp_sreg tt_ok (ks := [4, 7, 12, 67, 68]) (hs := []) [(4, .sl 2 4 0 c17.2.length), (7, .sl 1 3 0 so4.2.length), (12, vi c17.1), (67, vi x14), (68, vi c17.1)] [.fixed (a0.flatMap cel3), .cells [vi p_r.Steep, .d (L58 p_r.Points)], .cells [vi x1.1.CvRow.Steep, .d (L58 x1.1.CvRow.Points)], .data (so4.2.flatMap cel3), .data (c17.2.flatMap cel84)] [] (by kernel_rfl) trivial ?_
              refine awp_sreg tt_ok (ks := [4, 7, 12, 13, 67, 68]) (hs := []) [(4, .sl 2 4 0 c17.2.length), (7, .sl 1 3 0 so4.2.length), (12, vi c17.1), (13, vi (-1)), (67, vi x14), (68, vi c17.1)] [.fixed (a0.flatMap cel3), .cells [vi p_r.Steep, .d (L58 p_r.Points)], .cells [vi x1.1.CvRow.Steep, .d (L58 x1.1.CvRow.Points)], .data (so4.2.flatMap cel3), .data (c17.2.flatMap cel84)] [] (by kernel_rfl) trivial ?_
              refine awp_sreg tt_ok (ks := [4, 7, 12, 13, 67, 68, 71, 72, 73]) (hs := []) [(4, .sl 2 4 0 c17.2.length), (7, .sl 1 3 0 so4.2.length), (12, vi c17.1), (13, vi (-1)), (67, vi x14), (68, vi c17.1), (71, .sl 1 3 0 so4.2.length), (72, vi (so4.2.length : Int)), (73, vi 0)] [.fixed (a0.flatMap cel3), .cells [vi p_r.Steep, .d (L58 p_r.Points)], .cells [vi x1.1.CvRow.Steep, .d (L58 x1.1.CvRow.Points)], .data (so4.2.flatMap cel3), .data (c17.2.flatMap cel84)] [] (by kernel_rfl) trivial ?_
              obtain ⟨o20, ho20, h⟩ := Option.bind_eq_some_iff.1 h
              refine awp_cut1 (OutQ (fun (ro20 : (List S_api_CvPass) × Int) => [(4, .d (L84 ro20.1)), (5, vi ro20.2)]) (fun (ro20 : (List S_api_CvPass) × Int) => [.fixed (a0.flatMap cel3)]) (fun (so20 : (List S_api_CvPass)) => [(4, .sl 2 4 0 so20.length), (7, .sl 1 3 0 so4.2.length), (67, vi x14), (68, vi c17.1)]) (fun (so20 : (List S_api_CvPass)) => [.fixed (a0.flatMap cel3), .cells [vi p_r.Steep, .d (L58 p_r.Points)], .cells [vi x1.1.CvRow.Steep, .d (L58 x1.1.CvRow.Points)], .data (so4.2.flatMap cel3), .data (so20.flatMap cel84)]) o20) ?_ ?_
              · clear h
                have h := ho20
                clear ho20
                refine awp_selQ ?_
                refine awp_wk 5 [4, 7, 12, 13, 67, 68, 71, 72, 73] (by kernel_rfl) [(4, .sl 2 4 0 c17.2.length), (7, .sl 1 3 0 so4.2.length), (12, vi c17.1), (13, vi (-1)), (67, vi x14), (68, vi c17.1), (71, .sl 1 3 0 so4.2.length), (72, vi (so4.2.length : Int)), (73, vi 0)] [.fixed (a0.flatMap cel3), .cells [vi p_r.Steep, .d (L58 p_r.Points)], .cells [vi x1.1.CvRow.Steep, .d (L58 x1.1.CvRow.Points)], .data (so4.2.flatMap cel3), .data (c17.2.flatMap cel84)] (by kernel_rfl) (by kernel_rfl) ?_
                refine awp_block ?_
                refine awp_loop (n := fuel) ?_
                refine awpN_ind (fun n (c21 : Int × Int × (List S_api_CvPass)) => F30v1L3 so4 c17 n c21) o20 (fun (c21 : Int × Int × (List S_api_CvPass)) => [(4, .sl 2 4 0 c21.2.2.length), (7, .sl 1 3 0 so4.2.length), (12, vi c17.1), (13, vi c21.1), (67, vi x14), (68, vi c17.1), (71, .sl 1 3 0 so4.2.length), (72, vi (so4.2.length : Int)), (73, vi c21.2.1)]) (fun (c21 : Int × Int × (List S_api_CvPass)) => [.fixed (a0.flatMap cel3), .cells [vi p_r.Steep, .d (L58 p_r.Points)], .cells [vi x1.1.CvRow.Steep, .d (L58 x1.1.CvRow.Points)], .data (so4.2.flatMap cel3), .data (c21.2.2.flatMap cel84)]) (fun _ => rfl) ?_ fuel ((-1), 0, c17.2) h
                clear h
                intro n22 c21 h hrn22
                change F30v1L3 so4 c17 (n22 + 1) c21 = some o20 at h
                rw [F30v1L3] at h
                refine awp_sreg tt_ok (ks := [4, 7, 12, 13, 67, 68, 71, 72, 73, 74]) (hs := []) [(4, .sl 2 4 0 c21.2.2.length), (7, .sl 1 3 0 so4.2.length), (12, vi c17.1), (13, vi c21.1), (67, vi x14), (68, vi c17.1), (71, .sl 1 3 0 so4.2.length), (72, vi (so4.2.length : Int)), (73, vi c21.2.1), (74, vb (decide (c21.2.1 < (so4.2.length : Int))))] [.fixed (a0.flatMap cel3), .cells [vi p_r.Steep, .d (L58 p_r.Points)], .cells [vi x1.1.CvRow.Steep, .d (L58 x1.1.CvRow.Points)], .data (so4.2.flatMap cel3), .data (c21.2.2.flatMap cel84)] [] (by kernel_rfl) trivial ?_
                refine awp_seq ?_
                refine awp_cond (b := (decide (c21.2.1 < (so4.2.length : Int)))) (by kernel_rfl) (fun hb23 => ?_) (fun hb23 => ?_)
                · rw [if_pos hb23] at h
                  refine awp_skip ?_
                  show awp _ _ _ _ _ _ _ _
                  refine awp_seq ?_
                  refine awp_block ?_
                  obtain ⟨x24, hx24, h⟩ := Option.bind_eq_some_iff.1 h
                  refine awp_sreg tt_ok (ks := [4, 7, 12, 13, 14, 15, 67, 68, 71, 72, 73]) (hs := [.no, .no, .vals (([(di x24)] : List D).map .d)]) [(4, .sl 2 4 0 c21.2.2.length), (7, .sl 1 3 0 so4.2.length), (12, vi c17.1), (13, vi c21.1), (14, vi c21.2.1), (15, vi x24), (67, vi x14), (68, vi c17.1), (71, .sl 1 3 0 so4.2.length), (72, vi (so4.2.length : Int)), (73, vi c21.2.1)] [.fixed (a0.flatMap cel3), .cells [vi p_r.Steep, .d (L58 p_r.Points)], .cells [vi x1.1.CvRow.Steep, .d (L58 x1.1.CvRow.Points)], .data (so4.2.flatMap cel3), .data (c21.2.2.flatMap cel84)] [(0 ≤ c21.2.1 ∧ c21.2.1 < (so4.2.length : Int)), LoadOk ((so4.2.flatMap cel3).map .d) (0 + c21.2.1.toNat * 1) 1 (([(di x24)] : List D).map .d)] (by kernel_rfl) (And.intro (idx_bounds hx24) (loadOk (j := 0) (es := ([(di x24)] : List D)) cel3_len hx24 rfl rfl rfl (Nat.le_of_ble_eq_true rfl))) ?_
                  refine awp_block ?_
                  refine awp_sreg tt_ok (ks := [4, 7, 12, 13, 14, 15, 67, 68, 71, 72, 73, 78]) (hs := []) [(4, .sl 2 4 0 c21.2.2.length), (7, .sl 1 3 0 so4.2.length), (12, vi c17.1), (13, vi c21.1), (14, vi c21.2.1), (15, vi x24), (67, vi x14), (68, vi c17.1), (71, .sl 1 3 0 so4.2.length), (72, vi (so4.2.length : Int)), (73, vi c21.2.1), (78, vb (cond (decide (x24 > c17.1)) (decide (c21.1 < 0)) false))] [.fixed (a0.flatMap cel3), .cells [vi p_r.Steep, .d (L58 p_r.Points)], .cells [vi x1.1.CvRow.Steep, .d (L58 x1.1.CvRow.Points)], .data (so4.2.flatMap cel3), .data (c21.2.2.flatMap cel84)] [((decide (x24 > c17.1)) = true → (decide (x24 > c17.1)) = true), ((decide (x24 > c17.1)) = true → (decide (x24 > c17.1)) = true)] (by kernel_rfl) (And.intro (id) (id)) ?_
                  refine awp_cond (b := (cond (decide (x24 > c17.1)) (decide (c21.1 < 0)) false)) (by kernel_rfl) (fun hb25 => ?_) (fun hb25 => ?_)
                  · rw [if_pos hb25] at h
                    refine awp_region (T' := [(4, .sl 2 4 0 c21.2.2.length), (7, .sl 1 3 0 so4.2.length), (12, vi c17.1), (13, vi c21.2.1), (67, vi x14), (68, vi c17.1), (71, .sl 1 3 0 so4.2.length), (72, vi (so4.2.length : Int)), (73, vi c21.2.1)]) (H' := [.fixed (a0.flatMap cel3), .cells [vi p_r.Steep, .d (L58 p_r.Points)], .cells [vi x1.1.CvRow.Steep, .d (L58 x1.1.CvRow.Points)], .data (so4.2.flatMap cel3), .data (c21.2.2.flatMap cel84)]) (ps := []) tt_ok (ks := [4, 7, 12, 13, 67, 68, 71, 72, 73]) (hs := []) (by kernel_rfl) trivial ?_
                    show awp _ _ _ _ _ _ _ _
                    refine awp_region (T' := [(4, .sl 2 4 0 c21.2.2.length), (7, .sl 1 3 0 so4.2.length), (12, vi c17.1), (13, vi c21.2.1), (67, vi x14), (68, vi c17.1), (71, .sl 1 3 0 so4.2.length), (72, vi (so4.2.length : Int)), (73, vi (w64 (c21.2.1 + 1)))]) (H' := [.fixed (a0.flatMap cel3), .cells [vi p_r.Steep, .d (L58 p_r.Points)], .cells [vi x1.1.CvRow.Steep, .d (L58 x1.1.CvRow.Points)], .data (so4.2.flatMap cel3), .data (c21.2.2.flatMap cel84)]) (ps := []) tt_ok (ks := [4, 7, 12, 13, 67, 68, 71, 72, 73]) (hs := []) (by kernel_rfl) trivial ?_
                    exact awpN_wk 5 [4, 7, 12, 13, 67, 68, 71, 72, 73] (by kernel_rfl) _ _ (by kernel_rfl) (by kernel_rfl) (hrn22 (c21.2.1, (w64 (c21.2.1 + 1)), c21.2.2) h)
                  · rw [if_neg (ntrue hb25)] at h
                    refine awp_sreg tt_ok (ks := [4, 7, 12, 13, 14, 67, 68, 71, 72, 73, 87]) (hs := []) [(4, .sl 2 4 0 c21.2.2.length), (7, .sl 1 3 0 so4.2.length), (12, vi c17.1), (13, vi c21.1), (14, vi c21.2.1), (67, vi x14), (68, vi c17.1), (71, .sl 1 3 0 so4.2.length), (72, vi (so4.2.length : Int)), (73, vi c21.2.1), (87, vb (cond (decide (x24 ≤ c17.1)) (decide (c21.1 ≥ 0)) false))] [.fixed (a0.flatMap cel3), .cells [vi p_r.Steep, .d (L58 p_r.Points)], .cells [vi x1.1.CvRow.Steep, .d (L58 x1.1.CvRow.Points)], .data (so4.2.flatMap cel3), .data (c21.2.2.flatMap cel84)] [((decide (x24 ≤ c17.1)) = true → (decide (x24 ≤ c17.1)) = true), ((decide (x24 ≤ c17.1)) = true → (decide (x24 ≤ c17.1)) = true)] (by kernel_rfl) (And.intro (id) (id)) ?_
                    refine awp_cond (b := (cond (decide (x24 ≤ c17.1)) (decide (c21.1 ≥ 0)) false)) (by kernel_rfl) (fun hb26 => ?_) (fun hb26 => ?_)
                    · rw [if_pos hb26] at h
                      obtain ⟨x27, hx27, h⟩ := Option.bind_eq_some_iff.1 h
                      refine awp_sreg tt_ok (ks := [4, 7, 12, 67, 68, 71, 72, 73]) (hs := [.no, .no, .no, .no, .no, .no, .list (c21.2.2 ++ ([(⟨c21.1, (w64 (c21.2.1 - 1))⟩ : S_api_CvPass)] : List S_api_CvPass)).length ((c21.2.2 ++ ([(⟨c21.1, (w64 (c21.2.1 - 1))⟩ : S_api_CvPass)] : List S_api_CvPass)).flatMap cel84)]) [(4, .sl 2 4 0 (c21.2.2 ++ ([(⟨c21.1, (w64 (c21.2.1 - 1))⟩ : S_api_CvPass)] : List S_api_CvPass)).length), (7, .sl 1 3 0 so4.2.length), (12, vi c17.1), (67, vi x14), (68, vi c17.1), (71, .sl 1 3 0 so4.2.length), (72, vi (so4.2.length : Int)), (73, vi c21.2.1)] [.fixed (a0.flatMap cel3), .cells [vi p_r.Steep, .d (L58 p_r.Points)], .cells [vi x1.1.CvRow.Steep, .d (L58 x1.1.CvRow.Points)], .data (so4.2.flatMap cel3), .data ((c21.2.2 ++ ([(⟨c21.1, (w64 (c21.2.1 - 1))⟩ : S_api_CvPass)] : List S_api_CvPass)).flatMap cel84)] [AppendOk ((c21.2.2.flatMap cel84).map .d) c21.2.2.length ([(⟨c21.1, (w64 (c21.2.1 - 1))⟩ : S_api_CvPass)] : List S_api_CvPass).length (c21.2.2 ++ ([(⟨c21.1, (w64 (c21.2.1 - 1))⟩ : S_api_CvPass)] : List S_api_CvPass)).length 2 16 (([(⟨c21.1, (w64 (c21.2.1 - 1))⟩ : S_api_CvPass)] : List S_api_CvPass).flatMap cel84) ((c21.2.2 ++ ([(⟨c21.1, (w64 (c21.2.1 - 1))⟩ : S_api_CvPass)] : List S_api_CvPass)).flatMap cel84)] (by kernel_rfl) (appendOk cel84_len (need_of hx27)) ?_
                      refine awp_region (T' := [(4, .sl 2 4 0 (c21.2.2 ++ ([(⟨c21.1, (w64 (c21.2.1 - 1))⟩ : S_api_CvPass)] : List S_api_CvPass)).length), (7, .sl 1 3 0 so4.2.length), (12, vi c17.1), (13, vi (-1)), (67, vi x14), (68, vi c17.1), (71, .sl 1 3 0 so4.2.length), (72, vi (so4.2.length : Int)), (73, vi c21.2.1)]) (H' := [.fixed (a0.flatMap cel3), .cells [vi p_r.Steep, .d (L58 p_r.Points)], .cells [vi x1.1.CvRow.Steep, .d (L58 x1.1.CvRow.Points)], .data (so4.2.flatMap cel3), .data ((c21.2.2 ++ ([(⟨c21.1, (w64 (c21.2.1 - 1))⟩ : S_api_CvPass)] : List S_api_CvPass)).flatMap cel84)]) (ps := []) tt_ok (ks := [4, 7, 12, 13, 67, 68, 71, 72, 73]) (hs := []) (by kernel_rfl) trivial ?_
                      show awp _ _ _ _ _ _ _ _
                      refine awp_region (T' := [(4, .sl 2 4 0 (c21.2.2 ++ ([(⟨c21.1, (w64 (c21.2.1 - 1))⟩ : S_api_CvPass)] : List S_api_CvPass)).length), (7, .sl 1 3 0 so4.2.length), (12, vi c17.1), (13, vi (-1)), (67, vi x14), (68, vi c17.1), (71, .sl 1 3 0 so4.2.length), (72, vi (so4.2.length : Int)), (73, vi (w64 (c21.2.1 + 1)))]) (H' := [.fixed (a0.flatMap cel3), .cells [vi p_r.Steep, .d (L58 p_r.Points)], .cells [vi x1.1.CvRow.Steep, .d (L58 x1.1.CvRow.Points)], .data (so4.2.flatMap cel3), .data ((c21.2.2 ++ ([(⟨c21.1, (w64 (c21.2.1 - 1))⟩ : S_api_CvPass)] : List S_api_CvPass)).flatMap cel84)]) (ps := []) tt_ok (ks := [4, 7, 12, 13, 67, 68, 71, 72, 73]) (hs := []) (by kernel_rfl) trivial ?_
                      exact awpN_wk 5 [4, 7, 12, 13, 67, 68, 71, 72, 73] (by kernel_rfl) _ _ (by kernel_rfl) (by kernel_rfl) (hrn22 ((-1), (w64 (c21.2.1 + 1)), (c21.2.2 ++ ([(⟨c21.1, (w64 (c21.2.1 - 1))⟩ : S_api_CvPass)] : List S_api_CvPass))) h)
                    · rw [if_neg (ntrue hb26)] at h
                      refine awp_skip ?_
                      show awp _ _ _ _ _ _ _ _
                      refine awp_region (T' := [(4, .sl 2 4 0 c21.2.2.length), (7, .sl 1 3 0 so4.2.length), (12, vi c17.1), (13, vi c21.1), (67, vi x14), (68, vi c17.1), (71, .sl 1 3 0 so4.2.length), (72, vi (so4.2.length : Int)), (73, vi (w64 (c21.2.1 + 1)))]) (H' := [.fixed (a0.flatMap cel3), .cells [vi p_r.Steep, .d (L58 p_r.Points)], .cells [vi x1.1.CvRow.Steep, .d (L58 x1.1.CvRow.Points)], .data (so4.2.flatMap cel3), .data (c21.2.2.flatMap cel84)]) (ps := []) tt_ok (ks := [4, 7, 12, 13, 67, 68, 71, 72, 73]) (hs := []) (by kernel_rfl) trivial ?_
                      exact awpN_wk 5 [4, 7, 12, 13, 67, 68, 71, 72, 73] (by kernel_rfl) _ _ (by kernel_rfl) (by kernel_rfl) (hrn22 (c21.1, (w64 (c21.2.1 + 1)), c21.2.2) h)
                · rw [if_neg (ntrue hb23)] at h
                  refine awp_exit ?_
                  obtain rfl := Option.some.inj h
                  exact Sel.mk [0, 1, 2, 3, 4] [4, 7, 67, 68] (by kernel_rfl) (by kernel_rfl) (by kernel_rfl) OutQ.norm
              · intro e T H hq
                cases o20 with
                | inl ro20 =>
                  obtain ⟨rfl, rfl, rfl⟩ := hq
                  rw [outK_inl] at h
                  obtain rfl := Option.some.inj h
                  exact Sel.mk [0] [4, 5] (by kernel_rfl) (by kernel_rfl) (by kernel_rfl) OutQ.ret
                | inr so20 =>
                  obtain ⟨rfl, rfl, rfl⟩ := hq
                  rw [outK_inr] at h
                  show awp _ _ _ _ _ _ _ _
                  refine awp_region (T' := [(4, .sl 2 4 0 so20.length), (7, .sl 1 3 0 so4.2.length), (67, vi x14), (68, vi (w64 (c17.1 + 1)))]) (H' := [.fixed (a0.flatMap cel3), .cells [vi p_r.Steep, .d (L58 p_r.Points)], .cells [vi x1.1.CvRow.Steep, .d (L58 x1.1.CvRow.Points)], .data (so4.2.flatMap cel3), .data (so20.flatMap cel84)]) (ps := []) tt_ok (ks := [4, 7, 67, 68]) (hs := []) (by kernel_rfl) trivial ?_
                  exact awpN_wk 5 [4, 7, 67, 68] (by kernel_rfl) _ _ (by kernel_rfl) (by kernel_rfl) (hrn18 ((w64 (c17.1 + 1)), so20) h)
            · rw [if_neg (ntrue hb19)] at h
              refine awp_exit ?_
              obtain rfl := Option.some.inj h
              exact Sel.mk [0, 1, 2, 3, 4] [4] (by kernel_rfl) (by kernel_rfl) (by kernel_rfl) OutQ.norm
          · intro e T H hq
            cases o16 with
            | inl ro16 =>
              obtain ⟨rfl, rfl, rfl⟩ := hq
              rw [outK_inl] at h
              obtain rfl := Option.some.inj h
              exact (main_retS [0] (.tup [.d (L84 ro16.1), vi ro16.2]) (by kernel_rfl) (by kernel_rfl) (by kernel_rfl) (by kernel_rfl))
            | inr so16 =>
              obtain ⟨rfl, rfl, rfl⟩ := hq
              rw [outK_inr] at h
              show awp _ _ _ _ _ _ _ _
              refine awp_sreg tt_ok (ks := [4, 5]) (hs := []) [(4, .sl 2 4 0 so16.length), (5, vi 0)] [.fixed (a0.flatMap cel3), .cells [vi p_r.Steep, .d (L58 p_r.Points)], .cells [vi x1.1.CvRow.Steep, .d (L58 x1.1.CvRow.Points)], .data (so4.2.flatMap cel3), .data (so16.flatMap cel84)] [] (by kernel_rfl) trivial ?_
              obtain rfl := Option.some.inj h
              refine awp_wk 5 [4, 5] (by kernel_rfl) [(4, .sl 2 4 0 so16.length), (5, vi 0)] [.fixed (a0.flatMap cel3), .cells [vi p_r.Steep, .d (L58 p_r.Points)], .cells [vi x1.1.CvRow.Steep, .d (L58 x1.1.CvRow.Points)], .data (so4.2.flatMap cel3), .data (so16.flatMap cel84)] (by kernel_rfl) (by kernel_rfl) ?_
              refine awp_freeze 4 4 (so16.flatMap cel84) (.sl 2 4 0 so16.length) (.d (L84 so16)) _ _ (ps := [(so16.flatMap cel84).length = so16.length * 2]) (by kernel_rfl) (by kernel_rfl) (by kernel_rfl) (flatMap_len cel84 2 cel84_len so16) rfl rfl ?_
              refine awp_wk 5 [4, 5] (by kernel_rfl) [(4, .d (L84 so16)), (5, vi 0)] [.fixed (a0.flatMap cel3), .cells [vi p_r.Steep, .d (L58 p_r.Points)], .cells [vi x1.1.CvRow.Steep, .d (L58 x1.1.CvRow.Points)], .data (so4.2.flatMap cel3), .data (([] : List S_api_CvPass).flatMap cel84)] (by kernel_rfl) (by kernel_rfl) ?_
              exact awp_ret (main_retS [0] (.tup [.d (L84 so16), vi 0]) (by kernel_rfl) (by kernel_rfl) (by kernel_rfl) (by kernel_rfl))

set_option maxRecDepth 100000 in
theorem ct10 {fuel : Nat}  {p_r : S_api_CvRow} {p_x : (List Int)} {res : Bool} (h : F10 fuel p_r p_x = some res) : PCall Try.prog 10 [(.agg [(di p_r.Steep), (L58 p_r.Points)]), (L5 p_x)] (vb res) := by
  refine PCall.of_awp tt_ok (N := 123) Try.func10 rfl (by kernel_rfl) rfl (Nat.le_of_ble_eq_true rfl) rfl ?_
  unfold F10 at h
  refine awp_sreg tt_ok (ks := [1, 2]) (hs := []) [(1, .d (L5 p_x)), (2, .ref 0 0)] [.cells [vi p_r.Steep, .d (L58 p_r.Points)]] [] (by kernel_rfl) trivial ?_
  refine awp_seq ?_
  obtain ⟨x1, hx1, h⟩ := Option.bind_eq_some_iff.1 h
  refine awp_sreg tt_ok (ks := [1, 2, 17]) (hs := [.no, .call [(.agg [(di p_r.Steep), (L58 p_r.Points)])] (vb x1)]) [(1, .d (L5 p_x)), (2, .ref 0 0), (17, vb (!x1))] [.cells [vi p_r.Steep, .d (L58 p_r.Points)]] [PCall Try.prog 40 [(.agg [(di p_r.Steep), (L58 p_r.Points)])] (vb x1)] (by kernel_rfl) (ct40 hx1) ?_
  refine awp_cond (b := (!x1)) (by kernel_rfl) (fun hb2 => ?_) (fun hb2 => ?_)
  · rw [if_pos hb2] at h
    obtain ⟨x3, hx3, h⟩ := Option.bind_eq_some_iff.1 h
    refine awp_sreg tt_ok (ks := [4]) (hs := [.call [] (vb x3)]) [(4, vb x3)] [.cells [vi p_r.Steep, .d (L58 p_r.Points)]] [PCall Try.prog 25 [] (vb x3)] (by kernel_rfl) (ct25 hx3) ?_
    obtain rfl := Option.some.inj h
    refine awp_wk 1 [4] (by kernel_rfl) [(4, vb x3)] [.cells [vi p_r.Steep, .d (L58 p_r.Points)]] (by kernel_rfl) (by kernel_rfl) ?_
    exact awp_ret (main_ret (by kernel_rfl))
  · rw [if_neg (ntrue hb2)] at h
    refine awp_skip ?_
    show awp _ _ _ _ _ _ _ _
    obtain ⟨x4, hx4, h⟩ := Option.bind_eq_some_iff.1 h
    refine awp_sreg tt_ok (ks := [2, 5]) (hs := [.no, .no, .call [(.agg [(di p_r.Steep), (L58 p_r.Points)]), (L5 p_x)] (.d (L84 x4))]) [(2, .ref 0 0), (5, .d (L84 x4))] [.cells [vi p_r.Steep, .d (L58 p_r.Points)]] [PCall Try.prog 46 [(.agg [(di p_r.Steep), (L58 p_r.Points)]), (L5 p_x)] (.d (L84 x4))] (by kernel_rfl) (ct46 hx4) ?_
    obtain ⟨x5, hx5, h⟩ := Option.bind_eq_some_iff.1 h
    refine awp_sreg tt_ok (ks := [2, 5, 6, 7]) (hs := [.no, .no, .call [(.agg [(di p_r.Steep), (L58 p_r.Points)]), (L84 x4)] (.tup [.d (L3 x5.1), vi x5.2])]) [(2, .ref 0 0), (5, .d (L84 x4)), (6, .d (L3 x5.1)), (7, vi x5.2)] [.cells [vi p_r.Steep, .d (L58 p_r.Points)]] [PCall Try.prog 33 [(.agg [(di p_r.Steep), (L58 p_r.Points)]), (L84 x4)] (.tup [.d (L3 x5.1), vi x5.2])] (by kernel_rfl) (ct33 hx5) ?_
    refine awp_seq ?_
    refine awp_sreg tt_ok (ks := [2, 5, 6, 37]) (hs := []) [(2, .ref 0 0), (5, .d (L84 x4)), (6, .d (L3 x5.1)), (37, vb (cond (x5.2 != 0) true ((x5.1.length : Int) != (p_r.Points.length : Int))))] [.cells [vi p_r.Steep, .d (L58 p_r.Points)]] [((!(x5.2 != 0)) = true → (!(x5.2 != 0)) = true), ((!(x5.2 != 0)) = true → (!(x5.2 != 0)) = true), ((!(x5.2 != 0)) = true → (!(x5.2 != 0)) = true), ((!(x5.2 != 0)) = true → (!(x5.2 != 0)) = true), ((!(x5.2 != 0)) = true → (!(x5.2 != 0)) = true), ((x5.2 != 0) = false → (!(x5.2 != 0)) = true)] (by kernel_rfl) (And.intro (id) (And.intro (id) (And.intro (id) (And.intro (id) (And.intro (id) (not_of)))))) ?_
    refine awp_cond (b := (cond (x5.2 != 0) true ((x5.1.length : Int) != (p_r.Points.length : Int)))) (by kernel_rfl) (fun hb6 => ?_) (fun hb6 => ?_)
    · rw [if_pos hb6] at h
      refine awp_sreg tt_ok (ks := [4]) (hs := []) [(4, vb false)] [.cells [vi p_r.Steep, .d (L58 p_r.Points)]] [] (by kernel_rfl) trivial ?_
      obtain rfl := Option.some.inj h
      refine awp_wk 1 [4] (by kernel_rfl) [(4, vb false)] [.cells [vi p_r.Steep, .d (L58 p_r.Points)]] (by kernel_rfl) (by kernel_rfl) ?_
      exact awp_ret (main_ret (by kernel_rfl))
    · rw [if_neg (ntrue hb6)] at h
      refine awp_skip ?_
      show awp _ _ _ _ _ _ _ _
      refine awp_sreg tt_ok (ks := [2, 5, 6, 8]) (hs := []) [(2, .ref 0 0), (5, .d (L84 x4)), (6, .d (L3 x5.1)), (8, .ref 1 0)] [.cells [vi p_r.Steep, .d (L58 p_r.Points)], .cells [vi p_r.Steep, .d (L58 p_r.Points)]] [] (by kernel_rfl) trivial ?_
      obtain ⟨x7, hx7, h⟩ := Option.bind_eq_some_iff.1 h
      refine awp_sreg tt_ok (ks := [2, 5, 6, 8]) (hs := [.own, .no, .no, .list (([] : List S_api_CvPoint) ++ p_r.Points).length ((([] : List S_api_CvPoint) ++ p_r.Points).flatMap cel58)]) [(2, .ref 0 0), (5, .d (L84 x4)), (6, .d (L3 x5.1)), (8, .ref 1 0)] [.cells [vi p_r.Steep, .d (L58 p_r.Points)], .cells [vi p_r.Steep, .sl 3 2 0 (([] : List S_api_CvPoint) ++ p_r.Points).length], .data ((([] : List S_api_CvPoint) ++ p_r.Points).flatMap cel58)] [AppendOk ((([] : List S_api_CvPoint).flatMap cel58).map .d) ([] : List S_api_CvPoint).length p_r.Points.length (([] : List S_api_CvPoint) ++ p_r.Points).length 3 24 (p_r.Points.flatMap cel58) ((([] : List S_api_CvPoint) ++ p_r.Points).flatMap cel58)] (by kernel_rfl) (appendOk cel58_len (need_of hx7)) ?_
      refine awp_sreg tt_ok (ks := [2, 5, 6, 8, 9]) (hs := []) [(2, .ref 0 0), (5, .d (L84 x4)), (6, .d (L3 x5.1)), (8, .ref 1 0), (9, .d dnil)] [.cells [vi p_r.Steep, .d (L58 p_r.Points)], .cells [vi p_r.Steep, .sl 3 2 0 (([] : List S_api_CvPoint) ++ p_r.Points).length], .data ((([] : List S_api_CvPoint) ++ p_r.Points).flatMap cel58)] [] (by kernel_rfl) trivial ?_
      refine awp_seq ?_
      refine awp_sreg tt_ok (ks := [2, 5, 6, 8, 9, 10]) (hs := []) [(2, .ref 0 0), (5, .d (L84 x4)), (6, .d (L3 x5.1)), (8, .ref 1 0), (9, .d dnil), (10, vi 0)] [.cells [vi p_r.Steep, .d (L58 p_r.Points)], .cells [vi p_r.Steep, .sl 3 2 0 (([] : List S_api_CvPoint) ++ p_r.Points).length], .data ((([] : List S_api_CvPoint) ++ p_r.Points).flatMap cel58)] [] (by kernel_rfl) trivial ?_
      refine awp_nil 9 1 (by kernel_rfl) ?_
      refine awp_eq (T' := [(9, .sl 1 3 0 ([] : List Int).length), (2, .ref 0 0), (5, .d (L84 x4)), (6, .d (L3 x5.1)), (8, .ref 1 0), (10, vi 0)]) (H' := [.cells [vi p_r.Steep, .d (L58 p_r.Points)], .cells [vi p_r.Steep, .sl 3 2 0 (([] : List S_api_CvPoint) ++ p_r.Points).length], .data ((([] : List S_api_CvPoint) ++ p_r.Points).flatMap cel58), .data (([] : List Int).flatMap cel3)]) (by kernel_rfl) (by kernel_rfl) ?_
      refine awp_wk 4 [2, 5, 6, 8, 9, 10] (by kernel_rfl) [(2, .ref 0 0), (5, .d (L84 x4)), (6, .d (L3 x5.1)), (8, .ref 1 0), (9, .sl 1 3 0 ([] : List Int).length), (10, vi 0)] [.cells [vi p_r.Steep, .d (L58 p_r.Points)], .cells [vi p_r.Steep, .sl 3 2 0 (([] : List S_api_CvPoint) ++ p_r.Points).length], .data ((([] : List S_api_CvPoint) ++ p_r.Points).flatMap cel58), .data (([] : List Int).flatMap cel3)] (by kernel_rfl) (by kernel_rfl) ?_
      obtain ⟨o9, ho9, h⟩ := Option.bind_eq_some_iff.1 h
      refine awp_cut1 (OutQ (fun (ro9 : Bool) => [(4, vb ro9)]) (fun (ro9 : Bool) => []) (fun (so9 : (List S_api_CvPoint) × (List Int)) => [(5, .d (L84 x4)), (6, .d (L3 x5.1)), (8, .ref 1 0), (9, .sl 1 3 0 so9.2.length)]) (fun (so9 : (List S_api_CvPoint) × (List Int)) => [.cells [vi p_r.Steep, .d (L58 p_r.Points)], .cells [vi p_r.Steep, .sl 3 2 0 so9.1.length], .data (so9.1.flatMap cel58), .data (so9.2.flatMap cel3)]) o9) ?_ ?_
      · clear h
        have h := ho9
        clear ho9
        refine awp_selQ ?_
        refine awp_wk 4 [2, 5, 6, 8, 9, 10] (by kernel_rfl) [(2, .ref 0 0), (5, .d (L84 x4)), (6, .d (L3 x5.1)), (8, .ref 1 0), (9, .sl 1 3 0 ([] : List Int).length), (10, vi 0)] [.cells [vi p_r.Steep, .d (L58 p_r.Points)], .cells [vi p_r.Steep, .sl 3 2 0 (([] : List S_api_CvPoint) ++ p_r.Points).length], .data ((([] : List S_api_CvPoint) ++ p_r.Points).flatMap cel58), .data (([] : List Int).flatMap cel3)] (by kernel_rfl) (by kernel_rfl) ?_
        refine awp_block ?_
        refine awp_loop (n := fuel) ?_
        refine awpN_ind (fun n (c10 : Int × (List S_api_CvPoint) × (List Int)) => F10L1 p_r x5 n c10) o9 (fun (c10 : Int × (List S_api_CvPoint) × (List Int)) => [(2, .ref 0 0), (5, .d (L84 x4)), (6, .d (L3 x5.1)), (8, .ref 1 0), (9, .sl 1 3 0 c10.2.2.length), (10, vi c10.1)]) (fun (c10 : Int × (List S_api_CvPoint) × (List Int)) => [.cells [vi p_r.Steep, .d (L58 p_r.Points)], .cells [vi p_r.Steep, .sl 3 2 0 c10.2.1.length], .data (c10.2.1.flatMap cel58), .data (c10.2.2.flatMap cel3)]) (fun _ => rfl) ?_ fuel (0, (([] : List S_api_CvPoint) ++ p_r.Points), ([] : List Int)) h
        clear h
        intro n11 c10 h hrn11
        change F10L1 p_r x5 (n11 + 1) c10 = some o9 at h
        rw [F10L1] at h
        refine awp_seq ?_
        refine awp_sreg tt_ok (ks := [2, 5, 6, 8, 9, 10, 47]) (hs := []) [(2, .ref 0 0), (5, .d (L84 x4)), (6, .d (L3 x5.1)), (8, .ref 1 0), (9, .sl 1 3 0 c10.2.2.length), (10, vi c10.1), (47, vb (decide (c10.1 < (x5.1.length : Int))))] [.cells [vi p_r.Steep, .d (L58 p_r.Points)], .cells [vi p_r.Steep, .sl 3 2 0 c10.2.1.length], .data (c10.2.1.flatMap cel58), .data (c10.2.2.flatMap cel3)] [] (by kernel_rfl) trivial ?_
        refine awp_cond (b := (decide (c10.1 < (x5.1.length : Int)))) (by kernel_rfl) (fun hb12 => ?_) (fun hb12 => ?_)
        · rw [if_pos hb12] at h
          refine awp_skip ?_
          show awp _ _ _ _ _ _ _ _
          refine awp_seq ?_
          refine awp_block ?_
          refine awp_seq ?_
          obtain ⟨x13, hx13, h⟩ := Option.bind_eq_some_iff.1 h
          obtain ⟨x14, hx14, h⟩ := Option.bind_eq_some_iff.1 h
          refine awp_sreg tt_ok (ks := [2, 5, 6, 8, 9, 10, 61]) (hs := [.no, .no, .cells (cel3 x13), .no, .no, .no, .no, .no, .cells (cel3 x14)]) [(2, .ref 0 0), (5, .d (L84 x4)), (6, .d (L3 x5.1)), (8, .ref 1 0), (9, .sl 1 3 0 c10.2.2.length), (10, vi c10.1), (61, vb (cond (decide (x13 < 0)) true (decide (x14 > 60))))] [.cells [vi p_r.Steep, .d (L58 p_r.Points)], .cells [vi p_r.Steep, .sl 3 2 0 c10.2.1.length], .data (c10.2.1.flatMap cel58), .data (c10.2.2.flatMap cel3)] [IX3 x5.1 c10.1 x13, ((!(decide (x13 < 0))) = true → (!(decide (x13 < 0))) = true), ((!(decide (x13 < 0))) = true → (!(decide (x13 < 0))) = true), ((!(decide (x13 < 0))) = true → IX3 x5.1 c10.1 x14), ((!(decide (x13 < 0))) = true → (!(decide (x13 < 0))) = true), ((!(decide (x13 < 0))) = true → (!(decide (x13 < 0))) = true), ((decide (x13 < 0)) = false → (!(decide (x13 < 0))) = true)] (by kernel_rfl) (And.intro (idxOk cel3_len hx13) (And.intro (id) (And.intro (id) (And.intro ((fun hg => idxOk cel3_len (optG_of hx14 hg))) (And.intro (id) (And.intro (id) (not_of))))))) ?_
          refine awp_cond (b := (cond (decide (x13 < 0)) true (decide (x14 > 60)))) (by kernel_rfl) (fun hb15 => ?_) (fun hb15 => ?_)
          · rw [if_pos hb15] at h
            refine awp_sreg tt_ok (ks := [4]) (hs := []) [(4, vb false)] [.cells [vi p_r.Steep, .d (L58 p_r.Points)], .cells [vi p_r.Steep, .sl 3 2 0 c10.2.1.length], .data (c10.2.1.flatMap cel58), .data (c10.2.2.flatMap cel3)] [] (by kernel_rfl) trivial ?_
            obtain rfl := Option.some.inj h
            refine awp_wk 4 [4] (by kernel_rfl) [(4, vb false)] [.cells [vi p_r.Steep, .d (L58 p_r.Points)], .cells [vi p_r.Steep, .sl 3 2 0 c10.2.1.length], .data (c10.2.1.flatMap cel58), .data (c10.2.2.flatMap cel3)] (by kernel_rfl) (by kernel_rfl) ?_
            exact awp_ret (Sel.mk [] [4] (by kernel_rfl) (by kernel_rfl) (by kernel_rfl) OutQ.ret)
          · rw [if_neg (ntrue hb15)] at h
            refine awp_skip ?_
            show awp _ _ _ _ _ _ _ _
            obtain ⟨x16, hx16, h⟩ := Option.bind_eq_some_iff.1 h
            obtain ⟨x17, hx17, h⟩ := Option.bind_eq_some_iff.1 h
            obtain ⟨x18, hx18, h⟩ := Option.bind_eq_some_iff.1 h
            refine awp_sdraw tt_ok mixed (ks := [2, 5, 6, 8, 9, 10]) (hs := [.no, .no, .no, .no, .no, .cells (cel3 x16), .no, .no, .no, .no, .cells (cel58 x17), .no, .no, .no, .no, .no, .cells ((c10.2.1.set c10.1.toNat (⟨(if x17.Board > x16 then x17.Board else x16), x18.Lo, x18.Hi⟩ : S_api_CvPoint)).flatMap cel58)]) 14 [2, 5, 6, 8, 9, 10, 63, 64, 75, 76, 77] [(2, .ref 0 0), (5, .d (L84 x4)), (6, .d (L3 x5.1)), (8, .ref 1 0), (9, .sl 1 3 0 c10.2.2.length), (10, vi c10.1)] [.cells [vi p_r.Steep, .d (L58 p_r.Points)], .cells [vi p_r.Steep, .sl 3 2 0 c10.2.1.length], .data ((c10.2.1.set c10.1.toNat (⟨(if x17.Board > x16 then x17.Board else x16), x18.Lo, x18.Hi⟩ : S_api_CvPoint)).flatMap cel58), .data (c10.2.2.flatMap cel3)] [IX3 x5.1 c10.1 x16, IX58 p_r.Points c10.1 x17, (0 ≤ c10.1 ∧ c10.1 < (c10.2.1.length : Int)), StoreOk ((c10.2.1.flatMap cel58).map .d) (0 + c10.1.toNat * 3 + 0) (([(di (if x17.Board > x16 then x17.Board else x16))] : List D).map .d) (((c10.2.1.set c10.1.toNat (⟨(if x17.Board > x16 then x17.Board else x16), x18.Lo, x18.Hi⟩ : S_api_CvPoint)).flatMap cel58).map .d)] (by kernel_rfl) (And.intro (idxOk cel3_len hx16) (And.intro (idxOk cel58_len hx17) (And.intro (idx_bounds hx18) (storeOk (j := 0) (us := ([(di (if x17.Board > x16 then x17.Board else x16))] : List D)) (y := (⟨(if x17.Board > x16 then x17.Board else x16), x18.Lo, x18.Hi⟩ : S_api_CvPoint)) cel58_len hx18 rfl rfl (Nat.le_of_ble_eq_true rfl))))) ?_
            obtain ⟨x19, hx19, h⟩ := Option.bind_eq_some_iff.1 h
            obtain ⟨x20, hx20, h⟩ := Option.bind_eq_some_iff.1 h
            obtain ⟨x21, hx21, h⟩ := Option.bind_eq_some_iff.1 h
            refine awp_draw (T' := [(2, .ref 0 0), (5, .d (L84 x4)), (6, .d (L3 x5.1)), (8, .ref 1 0), (9, .sl 1 3 0 (c10.2.2 ++ ([(w64 (x19.Board - x20))] : List Int)).length), (10, vi c10.1)]) (H' := [.cells [vi p_r.Steep, .d (L58 p_r.Points)], .cells [vi p_r.Steep, .sl 3 2 0 c10.2.1.length], .data ((c10.2.1.set c10.1.toNat (⟨(if x17.Board > x16 then x17.Board else x16), x18.Lo, x18.Hi⟩ : S_api_CvPoint)).flatMap cel58), .data ((c10.2.2 ++ ([(w64 (x19.Board - x20))] : List Int)).flatMap cel3)]) (ps := [(0 ≤ c10.1 ∧ c10.1 < (c10.2.1.length : Int)), LoadOk (((c10.2.1.set c10.1.toNat (⟨(if x17.Board > x16 then x17.Board else x16), x18.Lo, x18.Hi⟩ : S_api_CvPoint)).flatMap cel58).map .d) (0 + c10.1.toNat * 3 + 0) 1 (([(di x19.Board)] : List D).map .d), IX3 x5.1 c10.1 x20, AppendOk ((c10.2.2.flatMap cel3).map .d) c10.2.2.length ([(w64 (x19.Board - x20))] : List Int).length (c10.2.2 ++ ([(w64 (x19.Board - x20))] : List Int)).length 1 8 (([(w64 (x19.Board - x20))] : List Int).flatMap cel3) ((c10.2.2 ++ ([(w64 (x19.Board - x20))] : List Int)).flatMap cel3)]) tt_ok mixed (ks := [2, 5, 6, 8, 9, 10]) (hs := [.no, .no, .no, .no, .no, .no, .vals (([(di x19.Board)] : List D).map .d), .no, .no, .cells (cel3 x20), .no, .no, .no, .list (c10.2.2 ++ ([(w64 (x19.Board - x20))] : List Int)).length ((c10.2.2 ++ ([(w64 (x19.Board - x20))] : List Int)).flatMap cel3)]) (m := 13) (mid := [2, 5, 6, 8, 9, 10, 78, 90, 91]) (by kernel_rfl) (And.intro ((by have h0 := idx_bounds hx19; simp only [List.length_set] at h0; exact h0)) (And.intro (loadOk (j := 0) (es := ([(di x19.Board)] : List D)) cel58_len hx19 rfl rfl rfl (Nat.le_of_ble_eq_true rfl)) (And.intro (idxOk cel3_len hx20) (appendOk cel3_len (need_of hx21))))) ?_
            show awp _ _ _ _ _ _ _ _
            refine awp_region (T' := [(2, .ref 0 0), (5, .d (L84 x4)), (6, .d (L3 x5.1)), (8, .ref 1 0), (9, .sl 1 3 0 (c10.2.2 ++ ([(w64 (x19.Board - x20))] : List Int)).length), (10, vi (w64 (c10.1 + 1)))]) (H' := [.cells [vi p_r.Steep, .d (L58 p_r.Points)], .cells [vi p_r.Steep, .sl 3 2 0 c10.2.1.length], .data ((c10.2.1.set c10.1.toNat (⟨(if x17.Board > x16 then x17.Board else x16), x18.Lo, x18.Hi⟩ : S_api_CvPoint)).flatMap cel58), .data ((c10.2.2 ++ ([(w64 (x19.Board - x20))] : List Int)).flatMap cel3)]) (ps := []) tt_ok (ks := [2, 5, 6, 8, 9, 10]) (hs := []) (by kernel_rfl) trivial ?_
            exact awpN_wk 4 [2, 5, 6, 8, 9, 10] (by kernel_rfl) _ _ (by kernel_rfl) (by simp only [List.length_set]; kernel_rfl) (hrn11 ((w64 (c10.1 + 1)), (c10.2.1.set c10.1.toNat (⟨(if x17.Board > x16 then x17.Board else x16), x18.Lo, x18.Hi⟩ : S_api_CvPoint)), (c10.2.2 ++ ([(w64 (x19.Board - x20))] : List Int))) h)
        · rw [if_neg (ntrue hb12)] at h
          refine awp_exit ?_
          obtain rfl := Option.some.inj h
          exact Sel.mk [0, 1, 2, 3] [5, 6, 8, 9] (by kernel_rfl) (by kernel_rfl) (by kernel_rfl) OutQ.norm
      · intro e T H hq
        cases o9 with
        | inl ro9 =>
          obtain ⟨rfl, rfl, rfl⟩ := hq
          rw [outK_inl] at h
          obtain rfl := Option.some.inj h
          exact main_ret (by kernel_rfl)
        | inr so9 =>
          obtain ⟨rfl, rfl, rfl⟩ := hq
          rw [outK_inr] at h
          show awp _ _ _ _ _ _ _ _
          refine awp_freezeC 1 1 2 (so9.1.flatMap cel58) [vi p_r.Steep, .sl 3 2 0 so9.1.length] (.sl 3 2 0 so9.1.length) (.d (L58 so9.1)) _ _ (ps := [(so9.1.flatMap cel58).length = so9.1.length * 3]) (by kernel_rfl) (by kernel_rfl) (by kernel_rfl) (by kernel_rfl) (flatMap_len cel58 3 cel58_len so9.1) rfl rfl ?_
          refine awp_wk 4 [5, 6, 8, 9] (by kernel_rfl) [(5, .d (L84 x4)), (6, .d (L3 x5.1)), (8, .ref 1 0), (9, .sl 1 3 0 so9.2.length)] [.cells [vi p_r.Steep, .d (L58 p_r.Points)], .cells [vi p_r.Steep, .d (L58 so9.1)], .data (([] : List S_api_CvPoint).flatMap cel58), .data (so9.2.flatMap cel3)] (by kernel_rfl) (by kernel_rfl) ?_
          obtain ⟨x22, hx22, h⟩ := Option.bind_eq_some_iff.1 h
          refine awp_sreg tt_ok (ks := [5, 6, 8, 11, 12]) (hs := [.no, .no, .hcall [(3, true)] (.tup [.d (L84 x22.1), vi x22.2]) [.fixed (so9.2.flatMap cel3)]]) [(5, .d (L84 x4)), (6, .d (L3 x5.1)), (8, .ref 1 0), (11, .d (L84 x22.1)), (12, vi x22.2)] [.cells [vi p_r.Steep, .d (L58 p_r.Points)], .cells [vi p_r.Steep, .d (L58 so9.1)], .data (([] : List S_api_CvPoint).flatMap cel58), .data (so9.2.flatMap cel3)] [HCall Try.prog 30 [.d (.agg [(di p_r.Steep), (L58 so9.1)]), .sl 1 0 0 so9.2.length] [.fixed (so9.2.flatMap cel3)] (.tup [.d (L84 x22.1), vi x22.2]) [.fixed (so9.2.flatMap cel3)]] (by kernel_rfl) (ct30v1 hx22) ?_
          refine awp_seq ?_
          refine awp_sreg tt_ok (ks := [6, 8, 11, 106]) (hs := []) [(6, .d (L3 x5.1)), (8, .ref 1 0), (11, .d (L84 x22.1)), (106, vb (cond (x22.2 != 0) true (decide ((x22.1.length : Int) > (x4.length : Int)))))] [.cells [vi p_r.Steep, .d (L58 p_r.Points)], .cells [vi p_r.Steep, .d (L58 so9.1)], .data (([] : List S_api_CvPoint).flatMap cel58), .data (so9.2.flatMap cel3)] [((!(x22.2 != 0)) = true → (!(x22.2 != 0)) = true), ((!(x22.2 != 0)) = true → (!(x22.2 != 0)) = true), ((!(x22.2 != 0)) = true → (!(x22.2 != 0)) = true), ((!(x22.2 != 0)) = true → (!(x22.2 != 0)) = true), ((x22.2 != 0) = false → (!(x22.2 != 0)) = true)] (by kernel_rfl) (And.intro (id) (And.intro (id) (And.intro (id) (And.intro (id) (not_of))))) ?_
          refine awp_cond (b := (cond (x22.2 != 0) true (decide ((x22.1.length : Int) > (x4.length : Int))))) (by kernel_rfl) (fun hb23 => ?_) (fun hb23 => ?_)
          · rw [if_pos hb23] at h
            refine awp_sreg tt_ok (ks := [4]) (hs := []) [(4, vb false)] [.cells [vi p_r.Steep, .d (L58 p_r.Points)], .cells [vi p_r.Steep, .d (L58 so9.1)], .data (([] : List S_api_CvPoint).flatMap cel58), .data (so9.2.flatMap cel3)] [] (by kernel_rfl) trivial ?_
            obtain rfl := Option.some.inj h
            refine awp_wk 4 [4] (by kernel_rfl) [(4, vb false)] [.cells [vi p_r.Steep, .d (L58 p_r.Points)], .cells [vi p_r.Steep, .d (L58 so9.1)], .data (([] : List S_api_CvPoint).flatMap cel58), .data (so9.2.flatMap cel3)] (by kernel_rfl) (by kernel_rfl) ?_
            exact awp_ret (main_ret (by kernel_rfl))
          · rw [if_neg (ntrue hb23)] at h
            refine awp_skip ?_
            show awp _ _ _ _ _ _ _ _
            obtain ⟨x24, hx24, h⟩ := Option.bind_eq_some_iff.1 h
            refine awp_sreg tt_ok (ks := [6, 13, 14]) (hs := [.no, .no, .call [(.agg [(di p_r.Steep), (L58 so9.1)]), (L84 x22.1)] (.tup [.d (L3 x24.1), vi x24.2])]) [(6, .d (L3 x5.1)), (13, .d (L3 x24.1)), (14, vi x24.2)] [.cells [vi p_r.Steep, .d (L58 p_r.Points)], .cells [vi p_r.Steep, .d (L58 so9.1)], .data (([] : List S_api_CvPoint).flatMap cel58), .data (so9.2.flatMap cel3)] [PCall Try.prog 33 [(.agg [(di p_r.Steep), (L58 so9.1)]), (L84 x22.1)] (.tup [.d (L3 x24.1), vi x24.2])] (by kernel_rfl) (ct33 hx24) ?_
            obtain ⟨x25, hx25, h⟩ := Option.bind_eq_some_iff.1 h
            obtain ⟨x26, hx26, h⟩ := Option.bind_eq_some_iff.1 h
            refine awp_sreg tt_ok (ks := [4]) (hs := [.no, .no, .no, .no, .no, .call [(L3 x24.1), (L3 x5.1)] (vb x25), .no, .no, .call [] (vb x26)]) [(4, vb (cond (cond (x24.2 == 0) x25 false) x26 false))] [.cells [vi p_r.Steep, .d (L58 p_r.Points)], .cells [vi p_r.Steep, .d (L58 so9.1)], .data (([] : List S_api_CvPoint).flatMap cel58), .data (so9.2.flatMap cel3)] [((x24.2 == 0) = true → (x24.2 == 0) = true), ((x24.2 == 0) = true → (x24.2 == 0) = true), ((x24.2 == 0) = true → PCall Try.prog 35 [(L3 x24.1), (L3 x5.1)] (vb x25)), ((x24.2 == 0) = true → (x24.2 == 0) = true), ((cond (x24.2 == 0) x25 false) = true → PCall Try.prog 25 [] (vb x26)), ((cond (x24.2 == 0) x25 false) = true → (cond (x24.2 == 0) x25 false) = true)] (by kernel_rfl) (And.intro (id) (And.intro (id) (And.intro ((fun hg => ct35 (optG_of hx25 hg))) (And.intro (id) (And.intro ((fun hg => ct25 (optG_of hx26 hg))) (id)))))) ?_
            obtain rfl := Option.some.inj h
            refine awp_wk 4 [4] (by kernel_rfl) [(4, vb (cond (cond (x24.2 == 0) x25 false) x26 false))] [.cells [vi p_r.Steep, .d (L58 p_r.Points)], .cells [vi p_r.Steep, .d (L58 so9.1)], .data (([] : List S_api_CvPoint).flatMap cel58), .data (so9.2.flatMap cel3)] (by kernel_rfl) (by kernel_rfl) ?_
            exact awp_ret (main_ret (by kernel_rfl))
end Go.Proofs.Ytadejgckgnbaoaa
