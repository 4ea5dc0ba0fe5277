/- That functions of the seat compute this. Printed by a program of mine. -/
import Derived.Test.YtadejgckgnbaoaaS
import Derived.Test.YtadejgckgnbaoaaCA1
import Derived.Test.YtadejgckgnbaoaaCA2
import Derived.Test.YtadejgckgnbaoaaCV
import Derived.Test.YtadejgckgnbaoaaDR
namespace Go.Proofs.Ytadejgckgnbaoaa
open Go Go.Sx
set_option linter.unusedVariables false

set_option maxRecDepth 100000 in
theorem ct14 {fuel : Nat}  {p_r : S_api_CvRow} {by_ : Int} {res : Bool} (h : F14 fuel p_r by_ = some res) : PCall Try.prog 14 [(.agg [(di p_r.Steep), (L58 p_r.Points)]), (.v (.int .u16 by_))] (vb res) := by
  refine PCall.of_awp tt_ok (N := 203) Try.func14 rfl (by kernel_rfl) rfl (Nat.le_of_ble_eq_true rfl) rfl ?_
  unfold F14 at h
  refine awp_sreg tt_ok (ks := [1, 2]) (hs := []) [(1, .d (.v (.int .u16 by_))), (2, .ref 0 0)] [.cells [vi p_r.Steep, .d (L58 p_r.Points)]] [] (by kernel_rfl) trivial ?_
  refine awp_seq ?_
  obtain ⟨x1, hx1, h⟩ := Option.bind_eq_some_iff.1 h
  refine awp_sreg tt_ok (ks := [1, 2, 30]) (hs := [.no, .call [(.agg [(di p_r.Steep), (L58 p_r.Points)])] (vb x1)]) [(1, .d (.v (.int .u16 by_))), (2, .ref 0 0), (30, vb (!x1))] [.cells [vi p_r.Steep, .d (L58 p_r.Points)]] [PCall Try.prog 40 [(.agg [(di p_r.Steep), (L58 p_r.Points)])] (vb x1)] (by kernel_rfl) (ct40 hx1) ?_
  refine awp_cond (b := (!x1)) (by kernel_rfl) (fun hb2 => ?_) (fun hb2 => ?_)
  · rw [if_pos hb2] at h
    obtain ⟨x3, hx3, h⟩ := Option.bind_eq_some_iff.1 h
    refine awp_sreg tt_ok (ks := [4]) (hs := [.call [] (vb x3)]) [(4, vb x3)] [.cells [vi p_r.Steep, .d (L58 p_r.Points)]] [PCall Try.prog 25 [] (vb x3)] (by kernel_rfl) (ct25 hx3) ?_
    obtain rfl := Option.some.inj h
    refine awp_wk 1 [4] (by kernel_rfl) [(4, vb x3)] [.cells [vi p_r.Steep, .d (L58 p_r.Points)]] (by kernel_rfl) (by kernel_rfl) ?_
    exact awp_ret (main_ret (by kernel_rfl))
  · rw [if_neg (ntrue hb2)] at h
    refine awp_skip ?_
    show awp _ _ _ _ _ _ _ _
    refine awp_sreg tt_ok (ks := [1, 2, 5]) (hs := []) [(1, .d (.v (.int .u16 by_))), (2, .ref 0 0), (5, .ref 1 0)] [.cells [vi p_r.Steep, .d (L58 p_r.Points)], .cells [vi p_r.Steep, .d (L58 p_r.Points)]] [] (by kernel_rfl) trivial ?_
    refine awp_sreg tt_ok (ks := [1, 2, 5]) (hs := []) [(1, .d (.v (.int .u16 by_))), (2, .ref 0 0), (5, .ref 1 0)] [.cells [vi p_r.Steep, .d (L58 p_r.Points)], .cells [vi p_r.Steep, .d dnil]] [] (by kernel_rfl) trivial ?_
    refine awp_sreg tt_ok (ks := [1, 2, 5, 6]) (hs := []) [(1, .d (.v (.int .u16 by_))), (2, .ref 0 0), (5, .ref 1 0), (6, vb true)] [.cells [vi p_r.Steep, .d (L58 p_r.Points)], .cells [vi p_r.Steep, .d dnil]] [] (by kernel_rfl) trivial ?_
    refine awp_seq ?_
    refine awp_sreg tt_ok (ks := [1, 2, 5, 6, 7]) (hs := []) [(1, .d (.v (.int .u16 by_))), (2, .ref 0 0), (5, .ref 1 0), (6, vb true), (7, vi 0)] [.cells [vi p_r.Steep, .d (L58 p_r.Points)], .cells [vi p_r.Steep, .d dnil]] [] (by kernel_rfl) trivial ?_
    refine awp_nilC 1 1 3 [vi p_r.Steep, .d dnil] [.cells [vi p_r.Steep, .d (L58 p_r.Points)], .cells [vi p_r.Steep, .sl 3 2 0 ([] : List S_api_CvPoint).length], .data (([] : List S_api_CvPoint).flatMap cel58)] (by kernel_rfl) (by kernel_rfl) (by kernel_rfl) ?_
    refine awp_wk 3 [1, 2, 5, 6, 7] (by kernel_rfl) [(1, .d (.v (.int .u16 by_))), (2, .ref 0 0), (5, .ref 1 0), (6, vb true), (7, vi 0)] [.cells [vi p_r.Steep, .d (L58 p_r.Points)], .cells [vi p_r.Steep, .sl 3 2 0 ([] : List S_api_CvPoint).length], .data (([] : List S_api_CvPoint).flatMap cel58)] (by kernel_rfl) (by kernel_rfl) ?_
    obtain ⟨o5, ho5, h⟩ := Option.bind_eq_some_iff.1 h
    refine awp_cut1 (OutQ (fun (ro5 : Bool) => [(4, vb ro5)]) (fun (ro5 : Bool) => []) (fun (so5 : Bool × (List S_api_CvPoint)) => [(1, .d (.v (.int .u16 by_))), (2, .ref 0 0), (5, .ref 1 0), (6, vb so5.1)]) (fun (so5 : Bool × (List S_api_CvPoint)) => [.cells [vi p_r.Steep, .d (L58 p_r.Points)], .cells [vi p_r.Steep, .sl 3 2 0 so5.2.length], .data (so5.2.flatMap cel58)]) o5) ?_ ?_
    · clear h
      have h := ho5
      clear ho5
      refine awp_selQ ?_
      refine awp_wk 3 [1, 2, 5, 6, 7] (by kernel_rfl) [(1, .d (.v (.int .u16 by_))), (2, .ref 0 0), (5, .ref 1 0), (6, vb true), (7, vi 0)] [.cells [vi p_r.Steep, .d (L58 p_r.Points)], .cells [vi p_r.Steep, .sl 3 2 0 ([] : List S_api_CvPoint).length], .data (([] : List S_api_CvPoint).flatMap cel58)] (by kernel_rfl) (by kernel_rfl) ?_
      refine awp_block ?_
      refine awp_loop (n := fuel) ?_
      refine awpN_ind (fun n (c6 : Bool × Int × (List S_api_CvPoint)) => F14L1 p_r by_ n c6) o5 (fun (c6 : Bool × Int × (List S_api_CvPoint)) => [(1, .d (.v (.int .u16 by_))), (2, .ref 0 0), (5, .ref 1 0), (6, vb c6.1), (7, vi c6.2.1)]) (fun (c6 : Bool × Int × (List S_api_CvPoint)) => [.cells [vi p_r.Steep, .d (L58 p_r.Points)], .cells [vi p_r.Steep, .sl 3 2 0 c6.2.2.length], .data (c6.2.2.flatMap cel58)]) (fun _ => rfl) ?_ fuel (true, 0, ([] : List S_api_CvPoint)) h
      clear h
      intro n7 c6 h hrn7
      change F14L1 p_r by_ (n7 + 1) c6 = some o5 at h
      rw [F14L1] at h
      refine awp_seq ?_
      refine awp_sreg tt_ok (ks := [1, 2, 5, 6, 7, 38]) (hs := []) [(1, .d (.v (.int .u16 by_))), (2, .ref 0 0), (5, .ref 1 0), (6, vb c6.1), (7, vi c6.2.1), (38, vb (decide (c6.2.1 < (p_r.Points.length : Int))))] [.cells [vi p_r.Steep, .d (L58 p_r.Points)], .cells [vi p_r.Steep, .sl 3 2 0 c6.2.2.length], .data (c6.2.2.flatMap cel58)] [] (by kernel_rfl) trivial ?_
      refine awp_cond (b := (decide (c6.2.1 < (p_r.Points.length : Int)))) (by kernel_rfl) (fun hb8 => ?_) (fun hb8 => ?_)
      · rw [if_pos hb8] at h
        refine awp_skip ?_
        show awp _ _ _ _ _ _ _ _
        refine awp_seq ?_
        refine awp_block ?_
        obtain ⟨x9, hx9, h⟩ := Option.bind_eq_some_iff.1 h
        refine awp_sreg tt_ok (ks := [1, 2, 5, 6, 7, 8]) (hs := [.no, .no, .no, .cells (cel58 x9)]) [(1, .d (.v (.int .u16 by_))), (2, .ref 0 0), (5, .ref 1 0), (6, vb c6.1), (7, vi c6.2.1), (8, .ref 3 0)] [.cells [vi p_r.Steep, .d (L58 p_r.Points)], .cells [vi p_r.Steep, .sl 3 2 0 c6.2.2.length], .data (c6.2.2.flatMap cel58), .cells [vi x9.Board, vi x9.Lo, vi x9.Hi]] [IX58 p_r.Points c6.2.1 x9] (by kernel_rfl) (idxOk cel58_len hx9) ?_
        refine awp_sreg tt_ok (ks := [1, 2, 5, 6, 7, 8]) (hs := []) [(1, .d (.v (.int .u16 by_))), (2, .ref 0 0), (5, .ref 1 0), (6, vb (cond c6.1 (decide (x9.Board > x9.Hi)) false)), (7, vi c6.2.1), (8, .ref 3 0)] [.cells [vi p_r.Steep, .d (L58 p_r.Points)], .cells [vi p_r.Steep, .sl 3 2 0 c6.2.2.length], .data (c6.2.2.flatMap cel58), .cells [vi x9.Board, vi x9.Lo, vi x9.Hi]] [(c6.1 = true → c6.1 = true), (c6.1 = true → c6.1 = true), (c6.1 = true → c6.1 = true), (c6.1 = true → c6.1 = true), (c6.1 = true → c6.1 = true)] (by kernel_rfl) (And.intro (id) (And.intro (id) (And.intro (id) (And.intro (id) (id))))) ?_
        refine awp_sreg tt_ok (ks := [1, 2, 5, 6, 7, 8, 9]) (hs := []) [(1, .d (.v (.int .u16 by_))), (2, .ref 0 0), (5, .ref 1 0), (6, vb (cond c6.1 (decide (x9.Board > x9.Hi)) false)), (7, vi c6.2.1), (8, .ref 3 0), (9, vi (IntKind.i64.wrap by_))] [.cells [vi p_r.Steep, .d (L58 p_r.Points)], .cells [vi p_r.Steep, .sl 3 2 0 c6.2.2.length], .data (c6.2.2.flatMap cel58), .cells [vi x9.Board, vi x9.Lo, vi x9.Hi]] [] (by kernel_rfl) trivial ?_
        obtain ⟨x10, hx10, h⟩ := Option.bind_eq_some_iff.1 h
        refine awp_region (T' := [(1, .d (.v (.int .u16 by_))), (2, .ref 0 0), (5, .ref 1 0), (6, vb (cond c6.1 (decide (x9.Board > x9.Hi)) false)), (7, vi c6.2.1)]) (H' := [.cells [vi p_r.Steep, .d (L58 p_r.Points)], .cells [vi p_r.Steep, .sl 3 2 0 (c6.2.2 ++ ([(⟨(w64 (x9.Board + (IntKind.i64.wrap by_))), (w64 (x9.Lo + (IntKind.i64.wrap by_))), (w64 (x9.Hi + (IntKind.i64.wrap by_)))⟩ : S_api_CvPoint)] : List S_api_CvPoint)).length], .data ((c6.2.2 ++ ([(⟨(w64 (x9.Board + (IntKind.i64.wrap by_))), (w64 (x9.Lo + (IntKind.i64.wrap by_))), (w64 (x9.Hi + (IntKind.i64.wrap by_)))⟩ : S_api_CvPoint)] : List S_api_CvPoint)).flatMap cel58), .cells [vi x9.Board, vi x9.Lo, vi x9.Hi]]) (ps := [AppendOk ((c6.2.2.flatMap cel58).map .d) c6.2.2.length ([(⟨(w64 (x9.Board + (IntKind.i64.wrap by_))), (w64 (x9.Lo + (IntKind.i64.wrap by_))), (w64 (x9.Hi + (IntKind.i64.wrap by_)))⟩ : S_api_CvPoint)] : List S_api_CvPoint).length (c6.2.2 ++ ([(⟨(w64 (x9.Board + (IntKind.i64.wrap by_))), (w64 (x9.Lo + (IntKind.i64.wrap by_))), (w64 (x9.Hi + (IntKind.i64.wrap by_)))⟩ : S_api_CvPoint)] : List S_api_CvPoint)).length 3 24 (([(⟨(w64 (x9.Board + (IntKind.i64.wrap by_))), (w64 (x9.Lo + (IntKind.i64.wrap by_))), (w64 (x9.Hi + (IntKind.i64.wrap by_)))⟩ : S_api_CvPoint)] : List S_api_CvPoint).flatMap cel58) ((c6.2.2 ++ ([(⟨(w64 (x9.Board + (IntKind.i64.wrap by_))), (w64 (x9.Lo + (IntKind.i64.wrap by_))), (w64 (x9.Hi + (IntKind.i64.wrap by_)))⟩ : S_api_CvPoint)] : List S_api_CvPoint)).flatMap cel58)]) tt_ok (ks := [1, 2, 5, 6, 7]) (hs := [.no, .no, .no, .no, .no, .no, .no, .no, .no, .no, .no, .no, .no, .no, .no, .no, .list (c6.2.2 ++ ([(⟨(w64 (x9.Board + (IntKind.i64.wrap by_))), (w64 (x9.Lo + (IntKind.i64.wrap by_))), (w64 (x9.Hi + (IntKind.i64.wrap by_)))⟩ : S_api_CvPoint)] : List S_api_CvPoint)).length ((c6.2.2 ++ ([(⟨(w64 (x9.Board + (IntKind.i64.wrap by_))), (w64 (x9.Lo + (IntKind.i64.wrap by_))), (w64 (x9.Hi + (IntKind.i64.wrap by_)))⟩ : S_api_CvPoint)] : List S_api_CvPoint)).flatMap cel58)]) (by kernel_rfl) (appendOk cel58_len (need_of hx10)) ?_
        show awp _ _ _ _ _ _ _ _
        refine awp_region (T' := [(1, .d (.v (.int .u16 by_))), (2, .ref 0 0), (5, .ref 1 0), (6, vb (cond c6.1 (decide (x9.Board > x9.Hi)) false)), (7, vi (w64 (c6.2.1 + 1)))]) (H' := [.cells [vi p_r.Steep, .d (L58 p_r.Points)], .cells [vi p_r.Steep, .sl 3 2 0 (c6.2.2 ++ ([(⟨(w64 (x9.Board + (IntKind.i64.wrap by_))), (w64 (x9.Lo + (IntKind.i64.wrap by_))), (w64 (x9.Hi + (IntKind.i64.wrap by_)))⟩ : S_api_CvPoint)] : List S_api_CvPoint)).length], .data ((c6.2.2 ++ ([(⟨(w64 (x9.Board + (IntKind.i64.wrap by_))), (w64 (x9.Lo + (IntKind.i64.wrap by_))), (w64 (x9.Hi + (IntKind.i64.wrap by_)))⟩ : S_api_CvPoint)] : List S_api_CvPoint)).flatMap cel58), .cells [vi x9.Board, vi x9.Lo, vi x9.Hi]]) (ps := []) tt_ok (ks := [1, 2, 5, 6, 7]) (hs := []) (by kernel_rfl) trivial ?_
        exact awpN_wk 3 [1, 2, 5, 6, 7] (by kernel_rfl) _ _ (by kernel_rfl) (by kernel_rfl) (hrn7 ((cond c6.1 (decide (x9.Board > x9.Hi)) false), (w64 (c6.2.1 + 1)), (c6.2.2 ++ ([(⟨(w64 (x9.Board + (IntKind.i64.wrap by_))), (w64 (x9.Lo + (IntKind.i64.wrap by_))), (w64 (x9.Hi + (IntKind.i64.wrap by_)))⟩ : S_api_CvPoint)] : List S_api_CvPoint))) h)
      · rw [if_neg (ntrue hb8)] at h
        refine awp_exit ?_
        obtain rfl := Option.some.inj h
        exact Sel.mk [0, 1, 2] [1, 2, 5, 6] (by kernel_rfl) (by kernel_rfl) (by kernel_rfl) OutQ.norm
    · intro e T H hq
      cases o5 with
      | inl ro5 =>
        obtain ⟨rfl, rfl, rfl⟩ := hq
        rw [outK_inl] at h
        obtain rfl := Option.some.inj h
        exact main_ret (by kernel_rfl)
      | inr so5 =>
        obtain ⟨rfl, rfl, rfl⟩ := hq
        rw [outK_inr] at h
        show awp _ _ _ _ _ _ _ _
        obtain ⟨x11, hx11, h⟩ := Option.bind_eq_some_iff.1 h
        refine awp_sreg tt_ok (ks := [1, 2, 5, 6, 11, 13]) (hs := [.no, .call [(.agg [(di p_r.Steep), (L58 p_r.Points)]), (db false)] (.tup [.d (L3 x11.1), vi x11.2.1, vi x11.2.2.1, vi x11.2.2.2])]) [(1, .d (.v (.int .u16 by_))), (2, .ref 0 0), (5, .ref 1 0), (6, vb so5.1), (11, vi x11.2.1), (13, vi x11.2.2.2)] [.cells [vi p_r.Steep, .d (L58 p_r.Points)], .cells [vi p_r.Steep, .sl 3 2 0 so5.2.length], .data (so5.2.flatMap cel58)] [PCall Try.prog 36 [(.agg [(di p_r.Steep), (L58 p_r.Points)]), (db false)] (.tup [.d (L3 x11.1), vi x11.2.1, vi x11.2.2.1, vi x11.2.2.2])] (by kernel_rfl) (ct36 hx11) ?_
        refine awp_seq ?_
        refine awp_sreg tt_ok (ks := [1, 2, 5, 89]) (hs := []) [(1, .d (.v (.int .u16 by_))), (2, .ref 0 0), (5, .ref 1 0), (89, vb (cond (cond (x11.2.2.2 == 0) so5.1 false) (x11.2.1 != 0) false))] [.cells [vi p_r.Steep, .d (L58 p_r.Points)], .cells [vi p_r.Steep, .sl 3 2 0 so5.2.length], .data (so5.2.flatMap cel58)] [((x11.2.2.2 == 0) = true → (x11.2.2.2 == 0) = true), ((cond (x11.2.2.2 == 0) so5.1 false) = true → (cond (x11.2.2.2 == 0) so5.1 false) = true), ((cond (x11.2.2.2 == 0) so5.1 false) = true → (cond (x11.2.2.2 == 0) so5.1 false) = true)] (by kernel_rfl) (And.intro (id) (And.intro (id) (id))) ?_
        refine awp_cond (b := (cond (cond (x11.2.2.2 == 0) so5.1 false) (x11.2.1 != 0) false)) (by kernel_rfl) (fun hb12 => ?_) (fun hb12 => ?_)
        · rw [if_pos hb12] at h
          refine awp_sreg tt_ok (ks := [4]) (hs := []) [(4, vb false)] [.cells [vi p_r.Steep, .d (L58 p_r.Points)], .cells [vi p_r.Steep, .sl 3 2 0 so5.2.length], .data (so5.2.flatMap cel58)] [] (by kernel_rfl) trivial ?_
          obtain rfl := Option.some.inj h
          refine awp_wk 3 [4] (by kernel_rfl) [(4, vb false)] [.cells [vi p_r.Steep, .d (L58 p_r.Points)], .cells [vi p_r.Steep, .sl 3 2 0 so5.2.length], .data (so5.2.flatMap cel58)] (by kernel_rfl) (by kernel_rfl) ?_
          exact awp_ret (main_ret (by kernel_rfl))
        · rw [if_neg (ntrue hb12)] at h
          refine awp_skip ?_
          show awp _ _ _ _ _ _ _ _
          refine awp_seq ?_
          refine awp_freezeC 1 1 2 (so5.2.flatMap cel58) [vi p_r.Steep, .sl 3 2 0 so5.2.length] (.sl 3 2 0 so5.2.length) (.d (L58 so5.2)) _ _ (ps := [(so5.2.flatMap cel58).length = so5.2.length * 3]) (by kernel_rfl) (by kernel_rfl) (by kernel_rfl) (by kernel_rfl) (flatMap_len cel58 3 cel58_len so5.2) rfl rfl ?_
          refine awp_wk 3 [1, 2, 5, 89] (by kernel_rfl) [(1, .d (.v (.int .u16 by_))), (2, .ref 0 0), (5, .ref 1 0), (89, vb (cond (cond (x11.2.2.2 == 0) so5.1 false) (x11.2.1 != 0) false))] [.cells [vi p_r.Steep, .d (L58 p_r.Points)], .cells [vi p_r.Steep, .d (L58 so5.2)], .data (([] : List S_api_CvPoint).flatMap cel58)] (by kernel_rfl) (by kernel_rfl) ?_
          obtain ⟨x13, hx13, h⟩ := Option.bind_eq_some_iff.1 h
          refine awp_sreg tt_ok (ks := [1, 2, 5, 92]) (hs := [.no, .call [(.agg [(di p_r.Steep), (L58 so5.2)])] (vb x13)]) [(1, .d (.v (.int .u16 by_))), (2, .ref 0 0), (5, .ref 1 0), (92, vb (!x13))] [.cells [vi p_r.Steep, .d (L58 p_r.Points)], .cells [vi p_r.Steep, .d (L58 so5.2)], .data (([] : List S_api_CvPoint).flatMap cel58)] [PCall Try.prog 40 [(.agg [(di p_r.Steep), (L58 so5.2)])] (vb x13)] (by kernel_rfl) (ct40 hx13) ?_
          refine awp_cond (b := (!x13)) (by kernel_rfl) (fun hb14 => ?_) (fun hb14 => ?_)
          · rw [if_pos hb14] at h
            obtain ⟨x15, hx15, h⟩ := Option.bind_eq_some_iff.1 h
            refine awp_sreg tt_ok (ks := [4]) (hs := [.call [] (vb x15)]) [(4, vb x15)] [.cells [vi p_r.Steep, .d (L58 p_r.Points)], .cells [vi p_r.Steep, .d (L58 so5.2)], .data (([] : List S_api_CvPoint).flatMap cel58)] [PCall Try.prog 25 [] (vb x15)] (by kernel_rfl) (ct25 hx15) ?_
            obtain rfl := Option.some.inj h
            refine awp_wk 3 [4] (by kernel_rfl) [(4, vb x15)] [.cells [vi p_r.Steep, .d (L58 p_r.Points)], .cells [vi p_r.Steep, .d (L58 so5.2)], .data (([] : List S_api_CvPoint).flatMap cel58)] (by kernel_rfl) (by kernel_rfl) ?_
            exact awp_ret (main_ret (by kernel_rfl))
          · rw [if_neg (ntrue hb14)] at h
            refine awp_skip ?_
            show awp _ _ _ _ _ _ _ _
            obtain ⟨x16, hx16, h⟩ := Option.bind_eq_some_iff.1 h
            refine awp_sreg tt_ok (ks := [1, 2, 5, 13, 14]) (hs := [.no, .call [(.agg [(di p_r.Steep), (L58 p_r.Points)])] (.tup [.d (L56 x16.1), vi x16.2])]) [(1, .d (.v (.int .u16 by_))), (2, .ref 0 0), (5, .ref 1 0), (13, vi x16.2), (14, .d (L56 x16.1))] [.cells [vi p_r.Steep, .d (L58 p_r.Points)], .cells [vi p_r.Steep, .d (L58 so5.2)], .data (([] : List S_api_CvPoint).flatMap cel58)] [PCall Try.prog 18 [(.agg [(di p_r.Steep), (L58 p_r.Points)])] (.tup [.d (L56 x16.1), vi x16.2])] (by kernel_rfl) (ct18 hx16) ?_
            obtain ⟨x17, hx17, h⟩ := Option.bind_eq_some_iff.1 h
            refine awp_sreg tt_ok (ks := [1, 2, 5, 13, 14, 15, 16]) (hs := [.no, .call [(.agg [(di p_r.Steep), (L58 so5.2)])] (.tup [.d (L56 x17.1), vi x17.2])]) [(1, .d (.v (.int .u16 by_))), (2, .ref 0 0), (5, .ref 1 0), (13, vi x16.2), (14, .d (L56 x16.1)), (15, .d (L56 x17.1)), (16, vi x17.2)] [.cells [vi p_r.Steep, .d (L58 p_r.Points)], .cells [vi p_r.Steep, .d (L58 so5.2)], .data (([] : List S_api_CvPoint).flatMap cel58)] [PCall Try.prog 18 [(.agg [(di p_r.Steep), (L58 so5.2)])] (.tup [.d (L56 x17.1), vi x17.2])] (by kernel_rfl) (ct18 hx17) ?_
            refine awp_seq ?_
            refine awp_sreg tt_ok (ks := [1, 2, 5, 14, 15, 113]) (hs := []) [(1, .d (.v (.int .u16 by_))), (2, .ref 0 0), (5, .ref 1 0), (14, .d (L56 x16.1)), (15, .d (L56 x17.1)), (113, vb (cond (x16.2 != x17.2) true ((x16.1.length : Int) != (x17.1.length : Int))))] [.cells [vi p_r.Steep, .d (L58 p_r.Points)], .cells [vi p_r.Steep, .d (L58 so5.2)], .data (([] : List S_api_CvPoint).flatMap cel58)] [((!(x16.2 != x17.2)) = true → (!(x16.2 != x17.2)) = true), ((!(x16.2 != x17.2)) = true → (!(x16.2 != x17.2)) = true), ((!(x16.2 != x17.2)) = true → (!(x16.2 != x17.2)) = true), ((!(x16.2 != x17.2)) = true → (!(x16.2 != x17.2)) = true), ((x16.2 != x17.2) = false → (!(x16.2 != x17.2)) = true)] (by kernel_rfl) (And.intro (id) (And.intro (id) (And.intro (id) (And.intro (id) (not_of))))) ?_
            refine awp_cond (b := (cond (x16.2 != x17.2) true ((x16.1.length : Int) != (x17.1.length : Int)))) (by kernel_rfl) (fun hb18 => ?_) (fun hb18 => ?_)
            · rw [if_pos hb18] at h
              refine awp_sreg tt_ok (ks := [4]) (hs := []) [(4, vb false)] [.cells [vi p_r.Steep, .d (L58 p_r.Points)], .cells [vi p_r.Steep, .d (L58 so5.2)], .data (([] : List S_api_CvPoint).flatMap cel58)] [] (by kernel_rfl) trivial ?_
              obtain rfl := Option.some.inj h
              refine awp_wk 3 [4] (by kernel_rfl) [(4, vb false)] [.cells [vi p_r.Steep, .d (L58 p_r.Points)], .cells [vi p_r.Steep, .d (L58 so5.2)], .data (([] : List S_api_CvPoint).flatMap cel58)] (by kernel_rfl) (by kernel_rfl) ?_
              exact awp_ret (main_ret (by kernel_rfl))
            · rw [if_neg (ntrue hb18)] at h
              refine awp_skip ?_
              show awp _ _ _ _ _ _ _ _
              refine awp_seq ?_
              refine awp_sreg tt_ok (ks := [1, 2, 5, 14, 15, 17]) (hs := []) [(1, .d (.v (.int .u16 by_))), (2, .ref 0 0), (5, .ref 1 0), (14, .d (L56 x16.1)), (15, .d (L56 x17.1)), (17, vi 0)] [.cells [vi p_r.Steep, .d (L58 p_r.Points)], .cells [vi p_r.Steep, .d (L58 so5.2)], .data (([] : List S_api_CvPoint).flatMap cel58)] [] (by kernel_rfl) trivial ?_
              obtain ⟨o19, ho19, h⟩ := Option.bind_eq_some_iff.1 h
              refine awp_cut1 (OutQ (fun (ro19 : Bool) => [(4, vb ro19)]) (fun (ro19 : Bool) => []) (fun (so19 : Unit) => [(1, .d (.v (.int .u16 by_))), (2, .ref 0 0), (5, .ref 1 0)]) (fun (so19 : Unit) => [.cells [vi p_r.Steep, .d (L58 p_r.Points)], .cells [vi p_r.Steep, .d (L58 so5.2)], .data (([] : List S_api_CvPoint).flatMap cel58)]) o19) ?_ ?_
              · clear h
                have h := ho19
                clear ho19
                refine awp_selQ ?_
                refine awp_wk 3 [1, 2, 5, 14, 15, 17] (by kernel_rfl) [(1, .d (.v (.int .u16 by_))), (2, .ref 0 0), (5, .ref 1 0), (14, .d (L56 x16.1)), (15, .d (L56 x17.1)), (17, vi 0)] [.cells [vi p_r.Steep, .d (L58 p_r.Points)], .cells [vi p_r.Steep, .d (L58 so5.2)], .data (([] : List S_api_CvPoint).flatMap cel58)] (by kernel_rfl) (by kernel_rfl) ?_
                refine awp_block ?_
                refine awp_loop (n := fuel) ?_
                refine awpN_ind (fun n (c20 : Int) => F14L2 by_ x16 x17 n c20) o19 (fun (c20 : Int) => [(1, .d (.v (.int .u16 by_))), (2, .ref 0 0), (5, .ref 1 0), (14, .d (L56 x16.1)), (15, .d (L56 x17.1)), (17, vi c20)]) (fun (c20 : Int) => [.cells [vi p_r.Steep, .d (L58 p_r.Points)], .cells [vi p_r.Steep, .d (L58 so5.2)], .data (([] : List S_api_CvPoint).flatMap cel58)]) (fun _ => rfl) ?_ fuel 0 h
                clear h
                intro n21 c20 h hrn21
                change F14L2 by_ x16 x17 (n21 + 1) c20 = some o19 at h
                rw [F14L2] at h
                refine awp_seq ?_
                refine awp_sreg tt_ok (ks := [1, 2, 5, 14, 15, 17, 117]) (hs := []) [(1, .d (.v (.int .u16 by_))), (2, .ref 0 0), (5, .ref 1 0), (14, .d (L56 x16.1)), (15, .d (L56 x17.1)), (17, vi c20), (117, vb (decide (c20 < (x16.1.length : Int))))] [.cells [vi p_r.Steep, .d (L58 p_r.Points)], .cells [vi p_r.Steep, .d (L58 so5.2)], .data (([] : List S_api_CvPoint).flatMap cel58)] [] (by kernel_rfl) trivial ?_
                refine awp_cond (b := (decide (c20 < (x16.1.length : Int)))) (by kernel_rfl) (fun hb22 => ?_) (fun hb22 => ?_)
                · rw [if_pos hb22] at h
                  refine awp_skip ?_
                  show awp _ _ _ _ _ _ _ _
                  refine awp_seq ?_
                  refine awp_block ?_
                  obtain ⟨x23, hx23, h⟩ := Option.bind_eq_some_iff.1 h
                  obtain ⟨x24, hx24, h⟩ := Option.bind_eq_some_iff.1 h
                  obtain ⟨x25, hx25, h⟩ := Option.bind_eq_some_iff.1 h
                  obtain ⟨x26, hx26, h⟩ := Option.bind_eq_some_iff.1 h
                  refine awp_sdraw tt_ok mixed (ks := [1, 2, 5, 14, 15, 17, 141]) (hs := [.no, .no, .cells (cel56 x23), .no, .no, .no, .cells (cel56 x24), .no, .no, .no, .no, .no, .no, .no, .cells (cel56 x25), .no, .no, .no, .no, .no, .call [(di (w64 (x24.Lo + (IntKind.i64.wrap by_)))), (di (w64 (x25.Hi + (IntKind.i64.wrap by_))))] (.d (.agg [(di x26.Lo), (di x26.Hi)]))]) 21 [1, 2, 5, 14, 15, 17, 123, 140, 141] [(1, .d (.v (.int .u16 by_))), (2, .ref 0 0), (5, .ref 1 0), (14, .d (L56 x16.1)), (15, .d (L56 x17.1)), (17, vi c20), (141, vb (!((x23.Lo == x26.Lo) && (x23.Hi == x26.Hi))))] [.cells [vi p_r.Steep, .d (L58 p_r.Points)], .cells [vi p_r.Steep, .d (L58 so5.2)], .data (([] : List S_api_CvPoint).flatMap cel58)] [IX56 x17.1 c20 x23, IX56 x16.1 c20 x24, IX56 x16.1 c20 x25, PCall Try.prog 48 [(di (w64 (x24.Lo + (IntKind.i64.wrap by_)))), (di (w64 (x25.Hi + (IntKind.i64.wrap by_))))] (.d (.agg [(di x26.Lo), (di x26.Hi)]))] (by kernel_rfl) (And.intro (idxOk cel56_len hx23) (And.intro (idxOk cel56_len hx24) (And.intro (idxOk cel56_len hx25) (ct48 hx26)))) ?_
                  refine awp_cond (b := (!((x23.Lo == x26.Lo) && (x23.Hi == x26.Hi)))) (by kernel_rfl) (fun hb27 => ?_) (fun hb27 => ?_)
                  · rw [if_pos hb27] at h
                    refine awp_sreg tt_ok (ks := [4]) (hs := []) [(4, vb false)] [.cells [vi p_r.Steep, .d (L58 p_r.Points)], .cells [vi p_r.Steep, .d (L58 so5.2)], .data (([] : List S_api_CvPoint).flatMap cel58)] [] (by kernel_rfl) trivial ?_
                    obtain rfl := Option.some.inj h
                    refine awp_wk 3 [4] (by kernel_rfl) [(4, vb false)] [.cells [vi p_r.Steep, .d (L58 p_r.Points)], .cells [vi p_r.Steep, .d (L58 so5.2)], .data (([] : List S_api_CvPoint).flatMap cel58)] (by kernel_rfl) (by kernel_rfl) ?_
                    exact awp_ret (Sel.mk [] [4] (by kernel_rfl) (by kernel_rfl) (by kernel_rfl) OutQ.ret)
                  · rw [if_neg (ntrue hb27)] at h
                    refine awp_skip ?_
                    show awp _ _ _ _ _ _ _ _
                    refine awp_region (T' := [(1, .d (.v (.int .u16 by_))), (2, .ref 0 0), (5, .ref 1 0), (14, .d (L56 x16.1)), (15, .d (L56 x17.1)), (17, vi (w64 (c20 + 1)))]) (H' := [.cells [vi p_r.Steep, .d (L58 p_r.Points)], .cells [vi p_r.Steep, .d (L58 so5.2)], .data (([] : List S_api_CvPoint).flatMap cel58)]) (ps := []) tt_ok (ks := [1, 2, 5, 14, 15, 17]) (hs := []) (by kernel_rfl) trivial ?_
                    exact awpN_wk 3 [1, 2, 5, 14, 15, 17] (by kernel_rfl) _ _ (by kernel_rfl) (by kernel_rfl) (hrn21 (w64 (c20 + 1)) h)
                · rw [if_neg (ntrue hb22)] at h
                  refine awp_exit ?_
                  obtain rfl := Option.some.inj h
                  exact Sel.mk [0, 1, 2] [1, 2, 5] (by kernel_rfl) (by kernel_rfl) (by kernel_rfl) OutQ.norm
              · intro e T H hq
                cases o19 with
                | inl ro19 =>
                  obtain ⟨rfl, rfl, rfl⟩ := hq
                  rw [outK_inl] at h
                  obtain rfl := Option.some.inj h
                  exact main_ret (by kernel_rfl)
                | inr so19 =>
                  obtain ⟨rfl, rfl, rfl⟩ := hq
                  rw [outK_inr] at h
                  show awp _ _ _ _ _ _ _ _
                  refine awp_seq ?_
                  refine awp_sreg tt_ok (ks := [1, 2, 5, 18]) (hs := []) [(1, .d (.v (.int .u16 by_))), (2, .ref 0 0), (5, .ref 1 0), (18, vi 0)] [.cells [vi p_r.Steep, .d (L58 p_r.Points)], .cells [vi p_r.Steep, .d (L58 so5.2)], .data (([] : List S_api_CvPoint).flatMap cel58)] [] (by kernel_rfl) trivial ?_
                  obtain ⟨o28, ho28, h⟩ := Option.bind_eq_some_iff.1 h
                  refine awp_cut1 (OutQ (fun (ro28 : Bool) => [(4, vb ro28)]) (fun (ro28 : Bool) => []) (fun (so28 : Unit) => []) (fun (so28 : Unit) => [.cells [vi p_r.Steep, .d (L58 p_r.Points)], .cells [vi p_r.Steep, .d (L58 so5.2)], .data (([] : List S_api_CvPoint).flatMap cel58)]) o28) ?_ ?_
                  · clear h
                    have h := ho28
                    clear ho28
                    refine awp_selQ ?_
                    refine awp_wk 3 [1, 2, 5, 18] (by kernel_rfl) [(1, .d (.v (.int .u16 by_))), (2, .ref 0 0), (5, .ref 1 0), (18, vi 0)] [.cells [vi p_r.Steep, .d (L58 p_r.Points)], .cells [vi p_r.Steep, .d (L58 so5.2)], .data (([] : List S_api_CvPoint).flatMap cel58)] (by kernel_rfl) (by kernel_rfl) ?_
                    refine awp_block ?_
                    refine awp_loop (n := fuel) ?_
                    refine awpN_ind (fun n (c29 : Int) => F14L3 fuel p_r by_ so5 n c29) o28 (fun (c29 : Int) => [(1, .d (.v (.int .u16 by_))), (2, .ref 0 0), (5, .ref 1 0), (18, vi c29)]) (fun (c29 : Int) => [.cells [vi p_r.Steep, .d (L58 p_r.Points)], .cells [vi p_r.Steep, .d (L58 so5.2)], .data (([] : List S_api_CvPoint).flatMap cel58)]) (fun _ => rfl) ?_ fuel 0 h
                    clear h
                    intro n30 c29 h hrn30
                    change F14L3 fuel p_r by_ so5 (n30 + 1) c29 = some o28 at h
                    rw [F14L3] at h
                    refine awp_seq ?_
                    refine awp_sreg tt_ok (ks := [1, 2, 5, 18, 143]) (hs := []) [(1, .d (.v (.int .u16 by_))), (2, .ref 0 0), (5, .ref 1 0), (18, vi c29), (143, vb (decide (c29 < 2)))] [.cells [vi p_r.Steep, .d (L58 p_r.Points)], .cells [vi p_r.Steep, .d (L58 so5.2)], .data (([] : List S_api_CvPoint).flatMap cel58)] [] (by kernel_rfl) trivial ?_
                    refine awp_cond (b := (decide (c29 < 2))) (by kernel_rfl) (fun hb31 => ?_) (fun hb31 => ?_)
                    · rw [if_pos hb31] at h
                      refine awp_skip ?_
                      show awp _ _ _ _ _ _ _ _
                      refine awp_seq ?_
                      refine awp_block ?_
                      obtain ⟨x32, hx32, h⟩ := Option.bind_eq_some_iff.1 h
                      refine awp_sreg tt_ok (ks := [1, 2, 5, 18, 19, 20, 21, 22]) (hs := [.no, .no, .no, .call [(.agg [(di p_r.Steep), (L58 p_r.Points)]), (db (c29 == 1))] (.tup [.d (L3 x32.1), vi x32.2.1, vi x32.2.2.1, vi x32.2.2.2])]) [(1, .d (.v (.int .u16 by_))), (2, .ref 0 0), (5, .ref 1 0), (18, vi c29), (19, .d (L3 x32.1)), (20, vi x32.2.1), (21, vi x32.2.2.1), (22, vi x32.2.2.2)] [.cells [vi p_r.Steep, .d (L58 p_r.Points)], .cells [vi p_r.Steep, .d (L58 so5.2)], .data (([] : List S_api_CvPoint).flatMap cel58)] [PCall Try.prog 36 [(.agg [(di p_r.Steep), (L58 p_r.Points)]), (db (c29 == 1))] (.tup [.d (L3 x32.1), vi x32.2.1, vi x32.2.2.1, vi x32.2.2.2])] (by kernel_rfl) (ct36 hx32) ?_
                      obtain ⟨x33, hx33, h⟩ := Option.bind_eq_some_iff.1 h
                      refine awp_sreg tt_ok (ks := [1, 2, 5, 18, 19, 20, 21, 22, 23, 24, 25, 26]) (hs := [.no, .no, .no, .call [(.agg [(di p_r.Steep), (L58 so5.2)]), (db (c29 == 1))] (.tup [.d (L3 x33.1), vi x33.2.1, vi x33.2.2.1, vi x33.2.2.2])]) [(1, .d (.v (.int .u16 by_))), (2, .ref 0 0), (5, .ref 1 0), (18, vi c29), (19, .d (L3 x32.1)), (20, vi x32.2.1), (21, vi x32.2.2.1), (22, vi x32.2.2.2), (23, .d (L3 x33.1)), (24, vi x33.2.1), (25, vi x33.2.2.1), (26, vi x33.2.2.2)] [.cells [vi p_r.Steep, .d (L58 p_r.Points)], .cells [vi p_r.Steep, .d (L58 so5.2)], .data (([] : List S_api_CvPoint).flatMap cel58)] [PCall Try.prog 36 [(.agg [(di p_r.Steep), (L58 so5.2)]), (db (c29 == 1))] (.tup [.d (L3 x33.1), vi x33.2.1, vi x33.2.2.1, vi x33.2.2.2])] (by kernel_rfl) (ct36 hx33) ?_
                      refine awp_seq ?_
                      refine awp_sreg tt_ok (ks := [1, 2, 5, 18, 19, 23, 183]) (hs := []) [(1, .d (.v (.int .u16 by_))), (2, .ref 0 0), (5, .ref 1 0), (18, vi c29), (19, .d (L3 x32.1)), (23, .d (L3 x33.1)), (183, vb (cond (cond (cond (x32.2.1 != x33.2.1) true (x32.2.2.1 != x33.2.2.1)) true (x32.2.2.2 != x33.2.2.2)) true ((x32.1.length : Int) != (x33.1.length : Int))))] [.cells [vi p_r.Steep, .d (L58 p_r.Points)], .cells [vi p_r.Steep, .d (L58 so5.2)], .data (([] : List S_api_CvPoint).flatMap cel58)] [((!(x32.2.1 != x33.2.1)) = true → (!(x32.2.1 != x33.2.1)) = true), ((!(x32.2.1 != x33.2.1)) = true → (!(x32.2.1 != x33.2.1)) = true), ((x32.2.1 != x33.2.1) = false → (!(x32.2.1 != x33.2.1)) = true), ((!(cond (x32.2.1 != x33.2.1) true (x32.2.2.1 != x33.2.2.1))) = true → (!(cond (x32.2.1 != x33.2.1) true (x32.2.2.1 != x33.2.2.1))) = true), ((!(cond (x32.2.1 != x33.2.1) true (x32.2.2.1 != x33.2.2.1))) = true → (!(cond (x32.2.1 != x33.2.1) true (x32.2.2.1 != x33.2.2.1))) = true), ((cond (x32.2.1 != x33.2.1) true (x32.2.2.1 != x33.2.2.1)) = false → (!(cond (x32.2.1 != x33.2.1) true (x32.2.2.1 != x33.2.2.1))) = true), ((!(cond (cond (x32.2.1 != x33.2.1) true (x32.2.2.1 != x33.2.2.1)) true (x32.2.2.2 != x33.2.2.2))) = true → (!(cond (cond (x32.2.1 != x33.2.1) true (x32.2.2.1 != x33.2.2.1)) true (x32.2.2.2 != x33.2.2.2))) = true), ((!(cond (cond (x32.2.1 != x33.2.1) true (x32.2.2.1 != x33.2.2.1)) true (x32.2.2.2 != x33.2.2.2))) = true → (!(cond (cond (x32.2.1 != x33.2.1) true (x32.2.2.1 != x33.2.2.1)) true (x32.2.2.2 != x33.2.2.2))) = true), ((!(cond (cond (x32.2.1 != x33.2.1) true (x32.2.2.1 != x33.2.2.1)) true (x32.2.2.2 != x33.2.2.2))) = true → (!(cond (cond (x32.2.1 != x33.2.1) true (x32.2.2.1 != x33.2.2.1)) true (x32.2.2.2 != x33.2.2.2))) = true), ((!(cond (cond (x32.2.1 != x33.2.1) true (x32.2.2.1 != x33.2.2.1)) true (x32.2.2.2 != x33.2.2.2))) = true → (!(cond (cond (x32.2.1 != x33.2.1) true (x32.2.2.1 != x33.2.2.1)) true (x32.2.2.2 != x33.2.2.2))) = true), ((cond (cond (x32.2.1 != x33.2.1) true (x32.2.2.1 != x33.2.2.1)) true (x32.2.2.2 != x33.2.2.2)) = false → (!(cond (cond (x32.2.1 != x33.2.1) true (x32.2.2.1 != x33.2.2.1)) true (x32.2.2.2 != x33.2.2.2))) = true)] (by kernel_rfl) (And.intro (id) (And.intro (id) (And.intro (not_of) (And.intro (id) (And.intro (id) (And.intro (not_of) (And.intro (id) (And.intro (id) (And.intro (id) (And.intro (id) (not_of))))))))))) ?_
                      refine awp_cond (b := (cond (cond (cond (x32.2.1 != x33.2.1) true (x32.2.2.1 != x33.2.2.1)) true (x32.2.2.2 != x33.2.2.2)) true ((x32.1.length : Int) != (x33.1.length : Int)))) (by kernel_rfl) (fun hb34 => ?_) (fun hb34 => ?_)
                      · rw [if_pos hb34] at h
                        refine awp_sreg tt_ok (ks := [4]) (hs := []) [(4, vb false)] [.cells [vi p_r.Steep, .d (L58 p_r.Points)], .cells [vi p_r.Steep, .d (L58 so5.2)], .data (([] : List S_api_CvPoint).flatMap cel58)] [] (by kernel_rfl) trivial ?_
                        obtain rfl := Option.some.inj h
                        refine awp_wk 3 [4] (by kernel_rfl) [(4, vb false)] [.cells [vi p_r.Steep, .d (L58 p_r.Points)], .cells [vi p_r.Steep, .d (L58 so5.2)], .data (([] : List S_api_CvPoint).flatMap cel58)] (by kernel_rfl) (by kernel_rfl) ?_
                        exact awp_ret (Sel.mk [] [4] (by kernel_rfl) (by kernel_rfl) (by kernel_rfl) OutQ.ret)
                      · rw [if_neg (ntrue hb34)] at h
                        refine awp_skip ?_
                        show awp _ _ _ _ _ _ _ _
                        refine awp_sreg tt_ok (ks := [1, 2, 5, 18, 19, 23, 27]) (hs := []) [(1, .d (.v (.int .u16 by_))), (2, .ref 0 0), (5, .ref 1 0), (18, vi c29), (19, .d (L3 x32.1)), (23, .d (L3 x33.1)), (27, vi 0)] [.cells [vi p_r.Steep, .d (L58 p_r.Points)], .cells [vi p_r.Steep, .d (L58 so5.2)], .data (([] : List S_api_CvPoint).flatMap cel58)] [] (by kernel_rfl) trivial ?_
                        obtain ⟨o35, ho35, h⟩ := Option.bind_eq_some_iff.1 h
                        refine awp_cut1 (OutQ (fun (ro35 : Bool) => [(4, vb ro35)]) (fun (ro35 : Bool) => []) (fun (so35 : Unit) => [(1, .d (.v (.int .u16 by_))), (2, .ref 0 0), (5, .ref 1 0), (18, vi c29)]) (fun (so35 : Unit) => [.cells [vi p_r.Steep, .d (L58 p_r.Points)], .cells [vi p_r.Steep, .d (L58 so5.2)], .data (([] : List S_api_CvPoint).flatMap cel58)]) o35) ?_ ?_
                        · clear h
                          have h := ho35
                          clear ho35
                          refine awp_selQ ?_
                          refine awp_wk 3 [1, 2, 5, 18, 19, 23, 27] (by kernel_rfl) [(1, .d (.v (.int .u16 by_))), (2, .ref 0 0), (5, .ref 1 0), (18, vi c29), (19, .d (L3 x32.1)), (23, .d (L3 x33.1)), (27, vi 0)] [.cells [vi p_r.Steep, .d (L58 p_r.Points)], .cells [vi p_r.Steep, .d (L58 so5.2)], .data (([] : List S_api_CvPoint).flatMap cel58)] (by kernel_rfl) (by kernel_rfl) ?_
                          refine awp_block ?_
                          refine awp_loop (n := fuel) ?_
                          refine awpN_ind (fun n (c36 : Int) => F14L4 by_ x32 x33 n c36) o35 (fun (c36 : Int) => [(1, .d (.v (.int .u16 by_))), (2, .ref 0 0), (5, .ref 1 0), (18, vi c29), (19, .d (L3 x32.1)), (23, .d (L3 x33.1)), (27, vi c36)]) (fun (c36 : Int) => [.cells [vi p_r.Steep, .d (L58 p_r.Points)], .cells [vi p_r.Steep, .d (L58 so5.2)], .data (([] : List S_api_CvPoint).flatMap cel58)]) (fun _ => rfl) ?_ fuel 0 h
                          clear h
                          intro n37 c36 h hrn37
                          change F14L4 by_ x32 x33 (n37 + 1) c36 = some o35 at h
                          rw [F14L4] at h
                          refine awp_seq ?_
                          refine awp_sreg tt_ok (ks := [1, 2, 5, 18, 19, 23, 27, 187]) (hs := []) [(1, .d (.v (.int .u16 by_))), (2, .ref 0 0), (5, .ref 1 0), (18, vi c29), (19, .d (L3 x32.1)), (23, .d (L3 x33.1)), (27, vi c36), (187, vb (decide (c36 < (x32.1.length : Int))))] [.cells [vi p_r.Steep, .d (L58 p_r.Points)], .cells [vi p_r.Steep, .d (L58 so5.2)], .data (([] : List S_api_CvPoint).flatMap cel58)] [] (by kernel_rfl) trivial ?_
                          refine awp_cond (b := (decide (c36 < (x32.1.length : Int)))) (by kernel_rfl) (fun hb38 => ?_) (fun hb38 => ?_)
                          · rw [if_pos hb38] at h
                            refine awp_skip ?_
                            show awp _ _ _ _ _ _ _ _
                            refine awp_seq ?_
                            refine awp_block ?_
                            obtain ⟨x39, hx39, h⟩ := Option.bind_eq_some_iff.1 h
                            obtain ⟨x40, hx40, h⟩ := Option.bind_eq_some_iff.1 h
                            refine awp_sdraw tt_ok mixed (ks := [1, 2, 5, 18, 19, 23, 27, 201]) (hs := [.no, .no, .cells (cel3 x39), .no, .no, .no, .cells (cel3 x40)]) 11 [1, 2, 5, 18, 19, 23, 27, 193, 200, 201] [(1, .d (.v (.int .u16 by_))), (2, .ref 0 0), (5, .ref 1 0), (18, vi c29), (19, .d (L3 x32.1)), (23, .d (L3 x33.1)), (27, vi c36), (201, vb (x39 != (w64 (x40 + (IntKind.i64.wrap by_)))))] [.cells [vi p_r.Steep, .d (L58 p_r.Points)], .cells [vi p_r.Steep, .d (L58 so5.2)], .data (([] : List S_api_CvPoint).flatMap cel58)] [IX3 x33.1 c36 x39, IX3 x32.1 c36 x40] (by kernel_rfl) (And.intro (idxOk cel3_len hx39) (idxOk cel3_len hx40)) ?_
                            refine awp_cond (b := (x39 != (w64 (x40 + (IntKind.i64.wrap by_))))) (by kernel_rfl) (fun hb41 => ?_) (fun hb41 => ?_)
                            · rw [if_pos hb41] at h
                              refine awp_sreg tt_ok (ks := [4]) (hs := []) [(4, vb false)] [.cells [vi p_r.Steep, .d (L58 p_r.Points)], .cells [vi p_r.Steep, .d (L58 so5.2)], .data (([] : List S_api_CvPoint).flatMap cel58)] [] (by kernel_rfl) trivial ?_
                              obtain rfl := Option.some.inj h
                              refine awp_wk 3 [4] (by kernel_rfl) [(4, vb false)] [.cells [vi p_r.Steep, .d (L58 p_r.Points)], .cells [vi p_r.Steep, .d (L58 so5.2)], .data (([] : List S_api_CvPoint).flatMap cel58)] (by kernel_rfl) (by kernel_rfl) ?_
                              exact awp_ret (Sel.mk [] [4] (by kernel_rfl) (by kernel_rfl) (by kernel_rfl) OutQ.ret)
                            · rw [if_neg (ntrue hb41)] at h
                              refine awp_skip ?_
                              show awp _ _ _ _ _ _ _ _
                              refine awp_region (T' := [(1, .d (.v (.int .u16 by_))), (2, .ref 0 0), (5, .ref 1 0), (18, vi c29), (19, .d (L3 x32.1)), (23, .d (L3 x33.1)), (27, vi (w64 (c36 + 1)))]) (H' := [.cells [vi p_r.Steep, .d (L58 p_r.Points)], .cells [vi p_r.Steep, .d (L58 so5.2)], .data (([] : List S_api_CvPoint).flatMap cel58)]) (ps := []) tt_ok (ks := [1, 2, 5, 18, 19, 23, 27]) (hs := []) (by kernel_rfl) trivial ?_
                              exact awpN_wk 3 [1, 2, 5, 18, 19, 23, 27] (by kernel_rfl) _ _ (by kernel_rfl) (by kernel_rfl) (hrn37 (w64 (c36 + 1)) h)
                          · rw [if_neg (ntrue hb38)] at h
                            refine awp_exit ?_
                            obtain rfl := Option.some.inj h
                            exact Sel.mk [0, 1, 2] [1, 2, 5, 18] (by kernel_rfl) (by kernel_rfl) (by kernel_rfl) OutQ.norm
                        · intro e T H hq
                          cases o35 with
                          | inl ro35 =>
                            obtain ⟨rfl, rfl, rfl⟩ := hq
                            rw [outK_inl] at h
                            obtain rfl := Option.some.inj h
                            exact Sel.mk [] [4] (by kernel_rfl) (by kernel_rfl) (by kernel_rfl) OutQ.ret
                          | inr so35 =>
                            obtain ⟨rfl, rfl, rfl⟩ := hq
                            rw [outK_inr] at h
                            show awp _ _ _ _ _ _ _ _
                            refine awp_region (T' := [(1, .d (.v (.int .u16 by_))), (2, .ref 0 0), (5, .ref 1 0), (18, vi (w64 (c29 + 1)))]) (H' := [.cells [vi p_r.Steep, .d (L58 p_r.Points)], .cells [vi p_r.Steep, .d (L58 so5.2)], .data (([] : List S_api_CvPoint).flatMap cel58)]) (ps := []) tt_ok (ks := [1, 2, 5, 18]) (hs := []) (by kernel_rfl) trivial ?_
                            exact awpN_wk 3 [1, 2, 5, 18] (by kernel_rfl) _ _ (by kernel_rfl) (by kernel_rfl) (hrn30 (w64 (c29 + 1)) h)
                    · rw [if_neg (ntrue hb31)] at h
                      refine awp_exit ?_
                      obtain rfl := Option.some.inj h
                      exact Sel.mk [0, 1, 2] [] (by kernel_rfl) (by kernel_rfl) (by kernel_rfl) OutQ.norm
                  · intro e T H hq
                    cases o28 with
                    | inl ro28 =>
                      obtain ⟨rfl, rfl, rfl⟩ := hq
                      rw [outK_inl] at h
                      obtain rfl := Option.some.inj h
                      exact main_ret (by kernel_rfl)
                    | inr so28 =>
                      obtain ⟨rfl, rfl, rfl⟩ := hq
                      rw [outK_inr] at h
                      show awp _ _ _ _ _ _ _ _
                      obtain ⟨x42, hx42, h⟩ := Option.bind_eq_some_iff.1 h
                      refine awp_sreg tt_ok (ks := [4]) (hs := [.call [] (vb x42)]) [(4, vb x42)] [.cells [vi p_r.Steep, .d (L58 p_r.Points)], .cells [vi p_r.Steep, .d (L58 so5.2)], .data (([] : List S_api_CvPoint).flatMap cel58)] [PCall Try.prog 25 [] (vb x42)] (by kernel_rfl) (ct25 hx42) ?_
                      obtain rfl := Option.some.inj h
                      refine awp_wk 3 [4] (by kernel_rfl) [(4, vb x42)] [.cells [vi p_r.Steep, .d (L58 p_r.Points)], .cells [vi p_r.Steep, .d (L58 so5.2)], .data (([] : List S_api_CvPoint).flatMap cel58)] (by kernel_rfl) (by kernel_rfl) ?_
                      exact awp_ret (main_ret (by kernel_rfl))
end Go.Proofs.Ytadejgckgnbaoaa
