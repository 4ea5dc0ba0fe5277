/- That functions of the seat compute this. Printed by a program of mine. -/
import Derived.Test.YtadejgckgnbaoaaS
import Derived.Test.YtadejgckgnbaoaaCA1
import Derived.Test.YtadejgckgnbaoaaCA2
import Derived.Test.YtadejgckgnbaoaaCV
import Derived.Test.YtadejgckgnbaoaaDT
namespace Go.Proofs.Ytadejgckgnbaoaa
open Go Go.Sx
set_option linter.unusedVariables false

set_option maxRecDepth 100000 in
theorem ct47 {fuel : Nat}  {p_r : S_api_CvRow} {res : S_api_CvRow} (h : F47 fuel p_r = some res) : PCall Try.prog 47 [(.agg [(di p_r.Steep), (L58 p_r.Points)])] (.d (.agg [(di res.Steep), (L58 res.Points)])) := by
  refine PCall.of_awp tt_ok (N := 24) Try.func47 rfl (by kernel_rfl) rfl (Nat.le_of_ble_eq_true rfl) rfl ?_
  unfold F47 at h
  refine awp_sreg tt_ok (ks := [1, 2]) (hs := []) [(1, .ref 0 0), (2, .ref 1 0)] [.cells [vi p_r.Steep, .d (L58 p_r.Points)], .cells [vi 0, .d dnil]] [] (by kernel_rfl) trivial ?_
  refine awp_sreg tt_ok (ks := [1, 2, 3]) (hs := []) [(1, .ref 0 0), (2, .ref 1 0), (3, .d dnil)] [.cells [vi p_r.Steep, .d (L58 p_r.Points)], .cells [vi 0, .d dnil]] [] (by kernel_rfl) trivial ?_
  refine awp_seq ?_
  refine awp_sreg tt_ok (ks := [1, 2, 3, 4]) (hs := []) [(1, .ref 0 0), (2, .ref 1 0), (3, .d dnil), (4, vi (w64 ((p_r.Points.length : Int) - 1)))] [.cells [vi p_r.Steep, .d (L58 p_r.Points)], .cells [vi 0, .d dnil]] [] (by kernel_rfl) trivial ?_
  refine awp_nil 3 3 (by kernel_rfl) ?_
  refine awp_eq (T' := [(3, .sl 3 2 0 ([] : List S_api_CvPoint).length), (1, .ref 0 0), (2, .ref 1 0), (4, vi (w64 ((p_r.Points.length : Int) - 1)))]) (H' := [.cells [vi p_r.Steep, .d (L58 p_r.Points)], .cells [vi 0, .d dnil], .data (([] : List S_api_CvPoint).flatMap cel58)]) (by kernel_rfl) (by kernel_rfl) ?_
  refine awp_wk 3 [1, 2, 3, 4] (by kernel_rfl) [(1, .ref 0 0), (2, .ref 1 0), (3, .sl 3 2 0 ([] : List S_api_CvPoint).length), (4, vi (w64 ((p_r.Points.length : Int) - 1)))] [.cells [vi p_r.Steep, .d (L58 p_r.Points)], .cells [vi 0, .d dnil], .data (([] : List S_api_CvPoint).flatMap cel58)] (by kernel_rfl) (by kernel_rfl) ?_
  obtain ⟨o2, ho2, h⟩ := Option.bind_eq_some_iff.1 h
  refine awp_cut1 (OutQ (fun (ro2 : S_api_CvRow) => [(2, .ref 0 0)]) (fun (ro2 : S_api_CvRow) => [.cells [vi ro2.Steep, .d (L58 ro2.Points)]]) (fun (so2 : (List S_api_CvPoint)) => [(1, .ref 0 0), (2, .ref 1 0), (3, .sl 3 2 0 so2.length)]) (fun (so2 : (List S_api_CvPoint)) => [.cells [vi p_r.Steep, .d (L58 p_r.Points)], .cells [vi 0, .d dnil], .data (so2.flatMap cel58)]) o2) ?_ ?_
  · clear h
    have h := ho2
    clear ho2
    refine awp_selQ ?_
    refine awp_wk 3 [1, 2, 3, 4] (by kernel_rfl) [(1, .ref 0 0), (2, .ref 1 0), (3, .sl 3 2 0 ([] : List S_api_CvPoint).length), (4, vi (w64 ((p_r.Points.length : Int) - 1)))] [.cells [vi p_r.Steep, .d (L58 p_r.Points)], .cells [vi 0, .d dnil], .data (([] : List S_api_CvPoint).flatMap cel58)] (by kernel_rfl) (by kernel_rfl) ?_
    refine awp_block ?_
    refine awp_loop (n := fuel) ?_
    refine awpN_ind (fun n (c3 : Int × (List S_api_CvPoint)) => F47L1 p_r n c3) o2 (fun (c3 : Int × (List S_api_CvPoint)) => [(1, .ref 0 0), (2, .ref 1 0), (3, .sl 3 2 0 c3.2.length), (4, vi c3.1)]) (fun (c3 : Int × (List S_api_CvPoint)) => [.cells [vi p_r.Steep, .d (L58 p_r.Points)], .cells [vi 0, .d dnil], .data (c3.2.flatMap cel58)]) (fun _ => rfl) ?_ fuel ((w64 ((p_r.Points.length : Int) - 1)), ([] : List S_api_CvPoint)) h
    clear h
    intro n4 c3 h hrn4
    change F47L1 p_r (n4 + 1) c3 = some o2 at h
    rw [F47L1] at h
    refine awp_seq ?_
    refine awp_sreg tt_ok (ks := [1, 2, 3, 4, 10]) (hs := []) [(1, .ref 0 0), (2, .ref 1 0), (3, .sl 3 2 0 c3.2.length), (4, vi c3.1), (10, vb (decide (c3.1 ≥ 0)))] [.cells [vi p_r.Steep, .d (L58 p_r.Points)], .cells [vi 0, .d dnil], .data (c3.2.flatMap cel58)] [] (by kernel_rfl) trivial ?_
    refine awp_cond (b := (decide (c3.1 ≥ 0))) (by kernel_rfl) (fun hb5 => ?_) (fun hb5 => ?_)
    · rw [if_pos hb5] at h
      refine awp_skip ?_
      show awp _ _ _ _ _ _ _ _
      refine awp_seq ?_
      refine awp_block ?_
      obtain ⟨x6, hx6, h⟩ := Option.bind_eq_some_iff.1 h
      obtain ⟨x7, hx7, h⟩ := Option.bind_eq_some_iff.1 h
      refine awp_region (T' := [(1, .ref 0 0), (2, .ref 1 0), (3, .sl 3 2 0 (c3.2 ++ ([x6] : List S_api_CvPoint)).length), (4, vi c3.1)]) (H' := [.cells [vi p_r.Steep, .d (L58 p_r.Points)], .cells [vi 0, .d dnil], .data ((c3.2 ++ ([x6] : List S_api_CvPoint)).flatMap cel58)]) (ps := [IX58 p_r.Points c3.1 x6, AppendOk ((c3.2.flatMap cel58).map .d) c3.2.length ([x6] : List S_api_CvPoint).length (c3.2 ++ ([x6] : List S_api_CvPoint)).length 3 24 (([x6] : List S_api_CvPoint).flatMap cel58) ((c3.2 ++ ([x6] : List S_api_CvPoint)).flatMap cel58)]) tt_ok (ks := [1, 2, 3, 4]) (hs := [.no, .no, .no, .no, .cells (cel58 x6), .no, .no, .list (c3.2 ++ ([x6] : List S_api_CvPoint)).length ((c3.2 ++ ([x6] : List S_api_CvPoint)).flatMap cel58)]) (by kernel_rfl) (And.intro (idxOk cel58_len hx6) (appendOk cel58_len (need_of hx7))) ?_
      show awp _ _ _ _ _ _ _ _
      refine awp_region (T' := [(1, .ref 0 0), (2, .ref 1 0), (3, .sl 3 2 0 (c3.2 ++ ([x6] : List S_api_CvPoint)).length), (4, vi (w64 (c3.1 - 1)))]) (H' := [.cells [vi p_r.Steep, .d (L58 p_r.Points)], .cells [vi 0, .d dnil], .data ((c3.2 ++ ([x6] : List S_api_CvPoint)).flatMap cel58)]) (ps := []) tt_ok (ks := [1, 2, 3, 4]) (hs := []) (by kernel_rfl) trivial ?_
      exact awpN_wk 3 [1, 2, 3, 4] (by kernel_rfl) _ _ (by kernel_rfl) (by kernel_rfl) (hrn4 ((w64 (c3.1 - 1)), (c3.2 ++ ([x6] : List S_api_CvPoint))) h)
    · rw [if_neg (ntrue hb5)] at h
      refine awp_exit ?_
      obtain rfl := Option.some.inj h
      exact Sel.mk [0, 1, 2] [1, 2, 3] (by kernel_rfl) (by kernel_rfl) (by kernel_rfl) OutQ.norm
  · intro e T H hq
    cases o2 with
    | inl ro2 =>
      obtain ⟨rfl, rfl, rfl⟩ := hq
      rw [outK_inl] at h
      obtain rfl := Option.some.inj h
      exact main_ret (by kernel_rfl)
    | inr so2 =>
      obtain ⟨rfl, rfl, rfl⟩ := hq
      rw [outK_inr] at h
      show awp _ _ _ _ _ _ _ _
      refine awp_sreg tt_ok (ks := [1, 2]) (hs := []) [(1, .ref 0 0), (2, .ref 1 0)] [.cells [vi p_r.Steep, .sl 3 2 0 so2.length], .cells [vi 0, .d dnil], .data (so2.flatMap cel58)] [] (by kernel_rfl) trivial ?_
      refine awp_sreg tt_ok (ks := [2]) (hs := []) [(2, .ref 1 0)] [.cells [vi p_r.Steep, .sl 3 2 0 so2.length], .cells [vi p_r.Steep, .sl 3 2 0 so2.length], .data (so2.flatMap cel58)] [] (by kernel_rfl) trivial ?_
      obtain rfl := Option.some.inj h
      refine awp_wk 3 [2] (by kernel_rfl) [(2, .ref 1 0)] [.cells [vi p_r.Steep, .sl 3 2 0 so2.length], .cells [vi p_r.Steep, .sl 3 2 0 so2.length], .data (so2.flatMap cel58)] (by kernel_rfl) (by kernel_rfl) ?_
      refine awp_freezeC 1 1 2 (so2.flatMap cel58) [vi p_r.Steep, .sl 3 2 0 so2.length] (.sl 3 2 0 so2.length) (.d (L58 so2)) _ _ (ps := [(so2.flatMap cel58).length = so2.length * 3]) (by kernel_rfl) (by kernel_rfl) (by kernel_rfl) (by kernel_rfl) (flatMap_len cel58 3 cel58_len so2) rfl rfl ?_
      refine awp_wk 3 [2] (by kernel_rfl) [(2, .ref 1 0)] [.cells [vi p_r.Steep, .top], .cells [vi p_r.Steep, .d (L58 so2)], .data (([] : List S_api_CvPoint).flatMap cel58)] (by kernel_rfl) (by kernel_rfl) ?_
      exact awp_ret (main_ret (by kernel_rfl))

set_option maxRecDepth 100000 in
theorem ct13 {fuel : Nat}  {p_r : S_api_CvRow} {res : Bool} (h : F13 fuel p_r = some res) : PCall Try.prog 13 [(.agg [(di p_r.Steep), (L58 p_r.Points)])] (vb res) := by
  refine PCall.of_awp tt_ok (N := 121) Try.func13 rfl (by kernel_rfl) rfl (Nat.le_of_ble_eq_true rfl) rfl ?_
  unfold F13 at h
  refine awp_sreg tt_ok (ks := [1]) (hs := []) [(1, .ref 0 0)] [.cells [vi p_r.Steep, .d (L58 p_r.Points)]] [] (by kernel_rfl) trivial ?_
  refine awp_seq ?_
  obtain ⟨x1, hx1, h⟩ := Option.bind_eq_some_iff.1 h
  refine awp_sreg tt_ok (ks := [1, 24]) (hs := [.no, .call [(.agg [(di p_r.Steep), (L58 p_r.Points)])] (vb x1)]) [(1, .ref 0 0), (24, vb (!x1))] [.cells [vi p_r.Steep, .d (L58 p_r.Points)]] [PCall Try.prog 40 [(.agg [(di p_r.Steep), (L58 p_r.Points)])] (vb x1)] (by kernel_rfl) (ct40 hx1) ?_
  refine awp_cond (b := (!x1)) (by kernel_rfl) (fun hb2 => ?_) (fun hb2 => ?_)
  · rw [if_pos hb2] at h
    obtain ⟨x3, hx3, h⟩ := Option.bind_eq_some_iff.1 h
    refine awp_sreg tt_ok (ks := [2]) (hs := [.call [] (vb x3)]) [(2, vb x3)] [.cells [vi p_r.Steep, .d (L58 p_r.Points)]] [PCall Try.prog 25 [] (vb x3)] (by kernel_rfl) (ct25 hx3) ?_
    obtain rfl := Option.some.inj h
    refine awp_wk 1 [2] (by kernel_rfl) [(2, vb x3)] [.cells [vi p_r.Steep, .d (L58 p_r.Points)]] (by kernel_rfl) (by kernel_rfl) ?_
    exact awp_ret (main_ret (by kernel_rfl))
  · rw [if_neg (ntrue hb2)] at h
    refine awp_skip ?_
    show awp _ _ _ _ _ _ _ _
    obtain ⟨x4, hx4, h⟩ := Option.bind_eq_some_iff.1 h
    refine awp_sreg tt_ok (ks := [1, 3]) (hs := [.no, .call [(.agg [(di p_r.Steep), (L58 p_r.Points)])] (.d (.agg [(di x4.Steep), (L58 x4.Points)]))]) [(1, .ref 0 0), (3, .ref 1 0)] [.cells [vi p_r.Steep, .d (L58 p_r.Points)], .cells [vi x4.Steep, .d (L58 x4.Points)]] [PCall Try.prog 47 [(.agg [(di p_r.Steep), (L58 p_r.Points)])] (.d (.agg [(di x4.Steep), (L58 x4.Points)]))] (by kernel_rfl) (ct47 hx4) ?_
    obtain ⟨x5, hx5, h⟩ := Option.bind_eq_some_iff.1 h
    refine awp_sreg tt_ok (ks := [1, 3, 4, 5]) (hs := [.no, .call [(.agg [(di p_r.Steep), (L58 p_r.Points)])] (.tup [.d (L56 x5.1), vi x5.2])]) [(1, .ref 0 0), (3, .ref 1 0), (4, .d (L56 x5.1)), (5, vi x5.2)] [.cells [vi p_r.Steep, .d (L58 p_r.Points)], .cells [vi x4.Steep, .d (L58 x4.Points)]] [PCall Try.prog 18 [(.agg [(di p_r.Steep), (L58 p_r.Points)])] (.tup [.d (L56 x5.1), vi x5.2])] (by kernel_rfl) (ct18 hx5) ?_
    obtain ⟨x6, hx6, h⟩ := Option.bind_eq_some_iff.1 h
    refine awp_sreg tt_ok (ks := [1, 3, 4, 5, 6, 7]) (hs := [.no, .call [(.agg [(di x4.Steep), (L58 x4.Points)])] (.tup [.d (L56 x6.1), vi x6.2])]) [(1, .ref 0 0), (3, .ref 1 0), (4, .d (L56 x5.1)), (5, vi x5.2), (6, .d (L56 x6.1)), (7, vi x6.2)] [.cells [vi p_r.Steep, .d (L58 p_r.Points)], .cells [vi x4.Steep, .d (L58 x4.Points)]] [PCall Try.prog 18 [(.agg [(di x4.Steep), (L58 x4.Points)])] (.tup [.d (L56 x6.1), vi x6.2])] (by kernel_rfl) (ct18 hx6) ?_
    refine awp_seq ?_
    refine awp_sreg tt_ok (ks := [1, 3, 4, 6, 47]) (hs := []) [(1, .ref 0 0), (3, .ref 1 0), (4, .d (L56 x5.1)), (6, .d (L56 x6.1)), (47, vb (cond (x5.2 != x6.2) true ((x5.1.length : Int) != (x6.1.length : Int))))] [.cells [vi p_r.Steep, .d (L58 p_r.Points)], .cells [vi x4.Steep, .d (L58 x4.Points)]] [((!(x5.2 != x6.2)) = true → (!(x5.2 != x6.2)) = true), ((!(x5.2 != x6.2)) = true → (!(x5.2 != x6.2)) = true), ((!(x5.2 != x6.2)) = true → (!(x5.2 != x6.2)) = true), ((!(x5.2 != x6.2)) = true → (!(x5.2 != x6.2)) = true), ((x5.2 != x6.2) = false → (!(x5.2 != x6.2)) = true)] (by kernel_rfl) (And.intro (id) (And.intro (id) (And.intro (id) (And.intro (id) (not_of))))) ?_
    refine awp_cond (b := (cond (x5.2 != x6.2) true ((x5.1.length : Int) != (x6.1.length : Int)))) (by kernel_rfl) (fun hb7 => ?_) (fun hb7 => ?_)
    · rw [if_pos hb7] at h
      refine awp_sreg tt_ok (ks := [2]) (hs := []) [(2, vb false)] [.cells [vi p_r.Steep, .d (L58 p_r.Points)], .cells [vi x4.Steep, .d (L58 x4.Points)]] [] (by kernel_rfl) trivial ?_
      obtain rfl := Option.some.inj h
      refine awp_wk 2 [2] (by kernel_rfl) [(2, vb false)] [.cells [vi p_r.Steep, .d (L58 p_r.Points)], .cells [vi x4.Steep, .d (L58 x4.Points)]] (by kernel_rfl) (by kernel_rfl) ?_
      exact awp_ret (main_ret (by kernel_rfl))
    · rw [if_neg (ntrue hb7)] at h
      refine awp_skip ?_
      show awp _ _ _ _ _ _ _ _
      refine awp_seq ?_
      refine awp_sreg tt_ok (ks := [1, 3, 4, 6, 8]) (hs := []) [(1, .ref 0 0), (3, .ref 1 0), (4, .d (L56 x5.1)), (6, .d (L56 x6.1)), (8, vi 0)] [.cells [vi p_r.Steep, .d (L58 p_r.Points)], .cells [vi x4.Steep, .d (L58 x4.Points)]] [] (by kernel_rfl) trivial ?_
      obtain ⟨o8, ho8, h⟩ := Option.bind_eq_some_iff.1 h
      refine awp_cut1 (OutQ (fun (ro8 : Bool) => [(2, vb ro8)]) (fun (ro8 : Bool) => []) (fun (so8 : Unit) => [(1, .ref 0 0), (3, .ref 1 0)]) (fun (so8 : Unit) => [.cells [vi p_r.Steep, .d (L58 p_r.Points)], .cells [vi x4.Steep, .d (L58 x4.Points)]]) o8) ?_ ?_
      · clear h
        have h := ho8
        clear ho8
        refine awp_selQ ?_
        refine awp_wk 2 [1, 3, 4, 6, 8] (by kernel_rfl) [(1, .ref 0 0), (3, .ref 1 0), (4, .d (L56 x5.1)), (6, .d (L56 x6.1)), (8, vi 0)] [.cells [vi p_r.Steep, .d (L58 p_r.Points)], .cells [vi x4.Steep, .d (L58 x4.Points)]] (by kernel_rfl) (by kernel_rfl) ?_
        refine awp_block ?_
        refine awp_loop (n := fuel) ?_
        refine awpN_ind (fun n (c9 : Int) => F13L1 x5 x6 n c9) o8 (fun (c9 : Int) => [(1, .ref 0 0), (3, .ref 1 0), (4, .d (L56 x5.1)), (6, .d (L56 x6.1)), (8, vi c9)]) (fun (c9 : Int) => [.cells [vi p_r.Steep, .d (L58 p_r.Points)], .cells [vi x4.Steep, .d (L58 x4.Points)]]) (fun _ => rfl) ?_ fuel 0 h
        clear h
        intro n10 c9 h hrn10
        change F13L1 x5 x6 (n10 + 1) c9 = some o8 at h
        rw [F13L1] at h
        refine awp_seq ?_
        refine awp_sreg tt_ok (ks := [1, 3, 4, 6, 8, 51]) (hs := []) [(1, .ref 0 0), (3, .ref 1 0), (4, .d (L56 x5.1)), (6, .d (L56 x6.1)), (8, vi c9), (51, vb (decide (c9 < (x5.1.length : Int))))] [.cells [vi p_r.Steep, .d (L58 p_r.Points)], .cells [vi x4.Steep, .d (L58 x4.Points)]] [] (by kernel_rfl) trivial ?_
        refine awp_cond (b := (decide (c9 < (x5.1.length : Int)))) (by kernel_rfl) (fun hb11 => ?_) (fun hb11 => ?_)
        · rw [if_pos hb11] at h
          refine awp_skip ?_
          show awp _ _ _ _ _ _ _ _
          refine awp_seq ?_
          refine awp_block ?_
          obtain ⟨x12, hx12, h⟩ := Option.bind_eq_some_iff.1 h
          obtain ⟨x13, hx13, h⟩ := Option.bind_eq_some_iff.1 h
          refine awp_sdraw tt_ok mixed (ks := [1, 3, 4, 6, 8, 66]) (hs := [.no, .no, .cells (cel56 x12), .no, .no, .no, .no, .no, .no, .no, .cells (cel56 x13)]) 12 [1, 3, 4, 6, 8, 57, 65, 66] [(1, .ref 0 0), (3, .ref 1 0), (4, .d (L56 x5.1)), (6, .d (L56 x6.1)), (8, vi c9), (66, vb (!((x12.Lo == x13.Lo) && (x12.Hi == x13.Hi))))] [.cells [vi p_r.Steep, .d (L58 p_r.Points)], .cells [vi x4.Steep, .d (L58 x4.Points)]] [IX56 x5.1 c9 x12, IX56 x6.1 (w64 ((w64 ((x6.1.length : Int) - 1)) - c9)) x13] (by kernel_rfl) (And.intro (idxOk cel56_len hx12) (idxOk cel56_len hx13)) ?_
          refine awp_cond (b := (!((x12.Lo == x13.Lo) && (x12.Hi == x13.Hi)))) (by kernel_rfl) (fun hb14 => ?_) (fun hb14 => ?_)
          · rw [if_pos hb14] at h
            refine awp_sreg tt_ok (ks := [2]) (hs := []) [(2, vb false)] [.cells [vi p_r.Steep, .d (L58 p_r.Points)], .cells [vi x4.Steep, .d (L58 x4.Points)]] [] (by kernel_rfl) trivial ?_
            obtain rfl := Option.some.inj h
            refine awp_wk 2 [2] (by kernel_rfl) [(2, vb false)] [.cells [vi p_r.Steep, .d (L58 p_r.Points)], .cells [vi x4.Steep, .d (L58 x4.Points)]] (by kernel_rfl) (by kernel_rfl) ?_
            exact awp_ret (Sel.mk [] [2] (by kernel_rfl) (by kernel_rfl) (by kernel_rfl) OutQ.ret)
          · rw [if_neg (ntrue hb14)] at h
            refine awp_skip ?_
            show awp _ _ _ _ _ _ _ _
            refine awp_region (T' := [(1, .ref 0 0), (3, .ref 1 0), (4, .d (L56 x5.1)), (6, .d (L56 x6.1)), (8, vi (w64 (c9 + 1)))]) (H' := [.cells [vi p_r.Steep, .d (L58 p_r.Points)], .cells [vi x4.Steep, .d (L58 x4.Points)]]) (ps := []) tt_ok (ks := [1, 3, 4, 6, 8]) (hs := []) (by kernel_rfl) trivial ?_
            exact awpN_wk 2 [1, 3, 4, 6, 8] (by kernel_rfl) _ _ (by kernel_rfl) (by kernel_rfl) (hrn10 (w64 (c9 + 1)) h)
        · rw [if_neg (ntrue hb11)] at h
          refine awp_exit ?_
          obtain rfl := Option.some.inj h
          exact Sel.mk [0, 1] [1, 3] (by kernel_rfl) (by kernel_rfl) (by kernel_rfl) OutQ.norm
      · intro e T H hq
        cases o8 with
        | inl ro8 =>
          obtain ⟨rfl, rfl, rfl⟩ := hq
          rw [outK_inl] at h
          obtain rfl := Option.some.inj h
          exact main_ret (by kernel_rfl)
        | inr so8 =>
          obtain ⟨rfl, rfl, rfl⟩ := hq
          rw [outK_inr] at h
          show awp _ _ _ _ _ _ _ _
          obtain ⟨x15, hx15, h⟩ := Option.bind_eq_some_iff.1 h
          refine awp_sreg tt_ok (ks := [1, 3, 9, 10]) (hs := [.no, .call [(.agg [(di p_r.Steep), (L58 p_r.Points)])] (.tup [vi x15.1, vi x15.2])]) [(1, .ref 0 0), (3, .ref 1 0), (9, vi x15.1), (10, vi x15.2)] [.cells [vi p_r.Steep, .d (L58 p_r.Points)], .cells [vi x4.Steep, .d (L58 x4.Points)]] [PCall Try.prog 23 [(.agg [(di p_r.Steep), (L58 p_r.Points)])] (.tup [vi x15.1, vi x15.2])] (by kernel_rfl) (ct23 hx15) ?_
          obtain ⟨x16, hx16, h⟩ := Option.bind_eq_some_iff.1 h
          refine awp_sreg tt_ok (ks := [1, 3, 9, 10, 11, 12]) (hs := [.no, .call [(.agg [(di x4.Steep), (L58 x4.Points)])] (.tup [vi x16.1, vi x16.2])]) [(1, .ref 0 0), (3, .ref 1 0), (9, vi x15.1), (10, vi x15.2), (11, vi x16.1), (12, vi x16.2)] [.cells [vi p_r.Steep, .d (L58 p_r.Points)], .cells [vi x4.Steep, .d (L58 x4.Points)]] [PCall Try.prog 23 [(.agg [(di x4.Steep), (L58 x4.Points)])] (.tup [vi x16.1, vi x16.2])] (by kernel_rfl) (ct23 hx16) ?_
          refine awp_seq ?_
          refine awp_sreg tt_ok (ks := [1, 3, 84]) (hs := []) [(1, .ref 0 0), (3, .ref 1 0), (84, vb (cond (x15.1 != x16.1) true (x15.2 != x16.2)))] [.cells [vi p_r.Steep, .d (L58 p_r.Points)], .cells [vi x4.Steep, .d (L58 x4.Points)]] [((!(x15.1 != x16.1)) = true → (!(x15.1 != x16.1)) = true), ((!(x15.1 != x16.1)) = true → (!(x15.1 != x16.1)) = true), ((x15.1 != x16.1) = false → (!(x15.1 != x16.1)) = true)] (by kernel_rfl) (And.intro (id) (And.intro (id) (not_of))) ?_
          refine awp_cond (b := (cond (x15.1 != x16.1) true (x15.2 != x16.2))) (by kernel_rfl) (fun hb17 => ?_) (fun hb17 => ?_)
          · rw [if_pos hb17] at h
            refine awp_sreg tt_ok (ks := [2]) (hs := []) [(2, vb false)] [.cells [vi p_r.Steep, .d (L58 p_r.Points)], .cells [vi x4.Steep, .d (L58 x4.Points)]] [] (by kernel_rfl) trivial ?_
            obtain rfl := Option.some.inj h
            refine awp_wk 2 [2] (by kernel_rfl) [(2, vb false)] [.cells [vi p_r.Steep, .d (L58 p_r.Points)], .cells [vi x4.Steep, .d (L58 x4.Points)]] (by kernel_rfl) (by kernel_rfl) ?_
            exact awp_ret (main_ret (by kernel_rfl))
          · rw [if_neg (ntrue hb17)] at h
            refine awp_skip ?_
            show awp _ _ _ _ _ _ _ _
            refine awp_seq ?_
            refine awp_sreg tt_ok (ks := [1, 3, 13]) (hs := []) [(1, .ref 0 0), (3, .ref 1 0), (13, vi 0)] [.cells [vi p_r.Steep, .d (L58 p_r.Points)], .cells [vi x4.Steep, .d (L58 x4.Points)]] [] (by kernel_rfl) trivial ?_
            obtain ⟨o18, ho18, h⟩ := Option.bind_eq_some_iff.1 h
            refine awp_cut1 (OutQ (fun (ro18 : Bool) => [(2, vb ro18)]) (fun (ro18 : Bool) => []) (fun (so18 : Unit) => []) (fun (so18 : Unit) => [.cells [vi p_r.Steep, .d (L58 p_r.Points)], .cells [vi x4.Steep, .d (L58 x4.Points)]]) o18) ?_ ?_
            · clear h
              have h := ho18
              clear ho18
              refine awp_selQ ?_
              refine awp_wk 2 [1, 3, 13] (by kernel_rfl) [(1, .ref 0 0), (3, .ref 1 0), (13, vi 0)] [.cells [vi p_r.Steep, .d (L58 p_r.Points)], .cells [vi x4.Steep, .d (L58 x4.Points)]] (by kernel_rfl) (by kernel_rfl) ?_
              refine awp_block ?_
              refine awp_loop (n := fuel) ?_
              refine awpN_ind (fun n (c19 : Int) => F13L2 fuel p_r x4 n c19) o18 (fun (c19 : Int) => [(1, .ref 0 0), (3, .ref 1 0), (13, vi c19)]) (fun (c19 : Int) => [.cells [vi p_r.Steep, .d (L58 p_r.Points)], .cells [vi x4.Steep, .d (L58 x4.Points)]]) (fun _ => rfl) ?_ fuel 0 h
              clear h
              intro n20 c19 h hrn20
              change F13L2 fuel p_r x4 (n20 + 1) c19 = some o18 at h
              rw [F13L2] at h
              refine awp_seq ?_
              refine awp_sreg tt_ok (ks := [1, 3, 13, 86]) (hs := []) [(1, .ref 0 0), (3, .ref 1 0), (13, vi c19), (86, vb (decide (c19 < 2)))] [.cells [vi p_r.Steep, .d (L58 p_r.Points)], .cells [vi x4.Steep, .d (L58 x4.Points)]] [] (by kernel_rfl) trivial ?_
              refine awp_cond (b := (decide (c19 < 2))) (by kernel_rfl) (fun hb21 => ?_) (fun hb21 => ?_)
              · rw [if_pos hb21] at h
                refine awp_skip ?_
                show awp _ _ _ _ _ _ _ _
                refine awp_seq ?_
                refine awp_block ?_
                obtain ⟨x22, hx22, h⟩ := Option.bind_eq_some_iff.1 h
                refine awp_sreg tt_ok (ks := [1, 3, 13, 15, 16, 17]) (hs := [.no, .no, .no, .call [(.agg [(di p_r.Steep), (L58 p_r.Points)]), (db (c19 == 1))] (.tup [.d (L3 x22.1), vi x22.2.1, vi x22.2.2.1, vi x22.2.2.2])]) [(1, .ref 0 0), (3, .ref 1 0), (13, vi c19), (15, vi x22.2.1), (16, vi x22.2.2.1), (17, vi x22.2.2.2)] [.cells [vi p_r.Steep, .d (L58 p_r.Points)], .cells [vi x4.Steep, .d (L58 x4.Points)]] [PCall Try.prog 36 [(.agg [(di p_r.Steep), (L58 p_r.Points)]), (db (c19 == 1))] (.tup [.d (L3 x22.1), vi x22.2.1, vi x22.2.2.1, vi x22.2.2.2])] (by kernel_rfl) (ct36 hx22) ?_
                obtain ⟨x23, hx23, h⟩ := Option.bind_eq_some_iff.1 h
                refine awp_sreg tt_ok (ks := [1, 3, 13, 15, 16, 17, 19, 20, 21]) (hs := [.no, .no, .no, .call [(.agg [(di x4.Steep), (L58 x4.Points)]), (db (c19 == 1))] (.tup [.d (L3 x23.1), vi x23.2.1, vi x23.2.2.1, vi x23.2.2.2])]) [(1, .ref 0 0), (3, .ref 1 0), (13, vi c19), (15, vi x22.2.1), (16, vi x22.2.2.1), (17, vi x22.2.2.2), (19, vi x23.2.1), (20, vi x23.2.2.1), (21, vi x23.2.2.2)] [.cells [vi p_r.Steep, .d (L58 p_r.Points)], .cells [vi x4.Steep, .d (L58 x4.Points)]] [PCall Try.prog 36 [(.agg [(di x4.Steep), (L58 x4.Points)]), (db (c19 == 1))] (.tup [.d (L3 x23.1), vi x23.2.1, vi x23.2.2.1, vi x23.2.2.2])] (by kernel_rfl) (ct36 hx23) ?_
                refine awp_sreg tt_ok (ks := [1, 3, 13, 119]) (hs := []) [(1, .ref 0 0), (3, .ref 1 0), (13, vi c19), (119, vb (cond (cond (x22.2.1 != x23.2.1) true (x22.2.2.1 != x23.2.2.1)) true (x22.2.2.2 != x23.2.2.2)))] [.cells [vi p_r.Steep, .d (L58 p_r.Points)], .cells [vi x4.Steep, .d (L58 x4.Points)]] [((!(x22.2.1 != x23.2.1)) = true → (!(x22.2.1 != x23.2.1)) = true), ((!(x22.2.1 != x23.2.1)) = true → (!(x22.2.1 != x23.2.1)) = true), ((x22.2.1 != x23.2.1) = false → (!(x22.2.1 != x23.2.1)) = true), ((!(cond (x22.2.1 != x23.2.1) true (x22.2.2.1 != x23.2.2.1))) = true → (!(cond (x22.2.1 != x23.2.1) true (x22.2.2.1 != x23.2.2.1))) = true), ((!(cond (x22.2.1 != x23.2.1) true (x22.2.2.1 != x23.2.2.1))) = true → (!(cond (x22.2.1 != x23.2.1) true (x22.2.2.1 != x23.2.2.1))) = true), ((cond (x22.2.1 != x23.2.1) true (x22.2.2.1 != x23.2.2.1)) = false → (!(cond (x22.2.1 != x23.2.1) true (x22.2.2.1 != x23.2.2.1))) = true)] (by kernel_rfl) (And.intro (id) (And.intro (id) (And.intro (not_of) (And.intro (id) (And.intro (id) (not_of)))))) ?_
                refine awp_cond (b := (cond (cond (x22.2.1 != x23.2.1) true (x22.2.2.1 != x23.2.2.1)) true (x22.2.2.2 != x23.2.2.2))) (by kernel_rfl) (fun hb24 => ?_) (fun hb24 => ?_)
                · rw [if_pos hb24] at h
                  refine awp_sreg tt_ok (ks := [2]) (hs := []) [(2, vb false)] [.cells [vi p_r.Steep, .d (L58 p_r.Points)], .cells [vi x4.Steep, .d (L58 x4.Points)]] [] (by kernel_rfl) trivial ?_
                  obtain rfl := Option.some.inj h
                  refine awp_wk 2 [2] (by kernel_rfl) [(2, vb false)] [.cells [vi p_r.Steep, .d (L58 p_r.Points)], .cells [vi x4.Steep, .d (L58 x4.Points)]] (by kernel_rfl) (by kernel_rfl) ?_
                  exact awp_ret (Sel.mk [] [2] (by kernel_rfl) (by kernel_rfl) (by kernel_rfl) OutQ.ret)
                · rw [if_neg (ntrue hb24)] at h
                  refine awp_skip ?_
                  show awp _ _ _ _ _ _ _ _
                  refine awp_region (T' := [(1, .ref 0 0), (3, .ref 1 0), (13, vi (w64 (c19 + 1)))]) (H' := [.cells [vi p_r.Steep, .d (L58 p_r.Points)], .cells [vi x4.Steep, .d (L58 x4.Points)]]) (ps := []) tt_ok (ks := [1, 3, 13]) (hs := []) (by kernel_rfl) trivial ?_
                  exact awpN_wk 2 [1, 3, 13] (by kernel_rfl) _ _ (by kernel_rfl) (by kernel_rfl) (hrn20 (w64 (c19 + 1)) h)
              · rw [if_neg (ntrue hb21)] at h
                refine awp_exit ?_
                obtain rfl := Option.some.inj h
                exact Sel.mk [0, 1] [] (by kernel_rfl) (by kernel_rfl) (by kernel_rfl) OutQ.norm
            · intro e T H hq
              cases o18 with
              | inl ro18 =>
                obtain ⟨rfl, rfl, rfl⟩ := hq
                rw [outK_inl] at h
                obtain rfl := Option.some.inj h
                exact main_ret (by kernel_rfl)
              | inr so18 =>
                obtain ⟨rfl, rfl, rfl⟩ := hq
                rw [outK_inr] at h
                show awp _ _ _ _ _ _ _ _
                obtain ⟨x25, hx25, h⟩ := Option.bind_eq_some_iff.1 h
                refine awp_sreg tt_ok (ks := [2]) (hs := [.call [] (vb x25)]) [(2, vb x25)] [.cells [vi p_r.Steep, .d (L58 p_r.Points)], .cells [vi x4.Steep, .d (L58 x4.Points)]] [PCall Try.prog 25 [] (vb x25)] (by kernel_rfl) (ct25 hx25) ?_
                obtain rfl := Option.some.inj h
                refine awp_wk 2 [2] (by kernel_rfl) [(2, vb x25)] [.cells [vi p_r.Steep, .d (L58 p_r.Points)], .cells [vi x4.Steep, .d (L58 x4.Points)]] (by kernel_rfl) (by kernel_rfl) ?_
                exact awp_ret (main_ret (by kernel_rfl))
end Go.Proofs.Ytadejgckgnbaoaa
