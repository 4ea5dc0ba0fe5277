/- That functions of the seat compute this. Printed by a program of mine. -/
import Derived.Test.YtpkhbbboedoldaaS
import Derived.Test.YtpkhbbboedoldaaCA
import Derived.Test.YtpkhbbboedoldaaCT
import Derived.Test.YtpkhbbboedoldaaCW
import Derived.Test.YtpkhbbboedoldaaDL
namespace Go.Proofs.Ytpkhbbboedoldaa
open Go Go.Sx
set_option maxRecDepth 100000
set_option linter.unusedVariables false
theorem ct16 {fuel : Nat}  {p_m : S_api_ClMap} {p_x : (List Int)} {res : Bool} (h : F16 fuel p_m p_x = some res) : PCall Try.prog 16 [(ma p_m), (L65 p_x)] (vb res) := by
 refine PCall.of_awp tt_ok (N := 183) Try.func16 rfl (by kernel_rfl) rfl (Nat.le_of_ble_eq_true rfl) rfl ?_
 unfold F16 at h
 refine g0 [1, 2] [] [(1, .d (L65 p_x)), (2, .ref 0 0)] [mc p_m] ?_
 refine awp_seq ?_
 obtain ⟨x1, hx1, h⟩ := ob h
 refine gr [1, 2, 22] [.no, .call [(ma p_m)] (vb x1)] [(1, .d (L65 p_x)), (2, .ref 0 0), (22, vb (!x1))] [mc p_m] [PCall Try.prog 39 [(ma p_m)] (vb x1)] (ct39 hx1) ?_
 refine awp_cond (b := (!x1)) (by kernel_rfl) (fun hb2 => ?_) (fun hb2 => ?_)
 ·rw [if_pos hb2] at h
  obtain ⟨x3, hx3, h⟩ := ob h
  refine gr [4] [.call [] (vb x3)] [(4, vb x3)] [mc p_m] [PCall Try.prog 30 [] (vb x3)] (ct30 hx3) ?_
  obtain rfl := Option.some.inj h
  refine gw 1 [4] [(4, vb x3)] [mc p_m] ?_
  exact awp_ret gm
 ·rw [if_neg (ntrue hb2)] at h
  refine awp_skip ?_
  show awp ..
  refine g0 [1, 2, 5] [] [(1, .d (L65 p_x)), (2, .ref 0 0), (5, .ref 1 0)] [mc p_m, mc p_m] ?_
  refine g0 [1, 2, 5] [] [(1, .d (L65 p_x)), (2, .ref 0 0), (5, .ref 1 0)] [mc p_m, .cells [.d dnil, vi p_m.Step, .d dnil, .d (L51 p_m.Sides), vi p_m.Inks, .d (L51 p_m.Like)]] ?_
  refine awp_seq (g0 [1, 2, 5, 6] [] [(1, .d (L65 p_x)), (2, .ref 0 0), (5, .ref 1 0), (6, vi (w64 ((p_m.Borders.length : Int) - 1)))] [mc p_m, .cells [.d dnil, vi p_m.Step, .d dnil, .d (L51 p_m.Sides), vi p_m.Inks, .d (L51 p_m.Like)]] ?_)
  refine awp_nilC 1 0 2 [.d dnil, vi p_m.Step, .d dnil, .d (L51 p_m.Sides), vi p_m.Inks, .d (L51 p_m.Like)] [mc p_m, .cells [.sl 2 2 0 ([] : List S_api_Span).length, vi p_m.Step, .d dnil, .d (L51 p_m.Sides), vi p_m.Inks, .d (L51 p_m.Like)], .data (([] : List S_api_Span).flatMap cel60)] (by kernel_rfl) (by kernel_rfl) (by kernel_rfl) ?_
  refine gw 3 [1, 2, 5, 6] [(1, .d (L65 p_x)), (2, .ref 0 0), (5, .ref 1 0), (6, vi (w64 ((p_m.Borders.length : Int) - 1)))] [mc p_m, .cells [.sl 2 2 0 ([] : List S_api_Span).length, vi p_m.Step, .d dnil, .d (L51 p_m.Sides), vi p_m.Inks, .d (L51 p_m.Like)], .data (([] : List S_api_Span).flatMap cel60)] ?_
  obtain ⟨o5, ho5, h⟩ := ob h
  refine awp_cut1 (OutQ (fun (ro5 : Bool) => [(4, vb ro5)]) (fun (ro5 : Bool) => []) (fun (so5 : (List S_api_Span)) => [(1, .d (L65 p_x)), (2, .ref 0 0), (5, .ref 1 0)]) (fun (so5 : (List S_api_Span)) => [mc p_m, .cells [.sl 2 2 0 so5.length, vi p_m.Step, .d dnil, .d (L51 p_m.Sides), vi p_m.Inks, .d (L51 p_m.Like)], .data (so5.flatMap cel60)]) o5) ?_ ?_
  ·clear h
   have h := ho5
   clear ho5
   refine awp_selQ (gw 3 [1, 2, 5, 6] [(1, .d (L65 p_x)), (2, .ref 0 0), (5, .ref 1 0), (6, vi (w64 ((p_m.Borders.length : Int) - 1)))] [mc p_m, .cells [.sl 2 2 0 ([] : List S_api_Span).length, vi p_m.Step, .d dnil, .d (L51 p_m.Sides), vi p_m.Inks, .d (L51 p_m.Like)], .data (([] : List S_api_Span).flatMap cel60)] ?_)
   refine awp_block (awp_loop (n := fuel) ?_)
   refine awpN_ind (fun n (c6 : Int × (List S_api_Span)) => F16L1 p_m n c6) o5 (fun (c6 : Int × (List S_api_Span)) => [(1, .d (L65 p_x)), (2, .ref 0 0), (5, .ref 1 0), (6, vi c6.1)]) (fun (c6 : Int × (List S_api_Span)) => [mc p_m, .cells [.sl 2 2 0 c6.2.length, vi p_m.Step, .d dnil, .d (L51 p_m.Sides), vi p_m.Inks, .d (L51 p_m.Like)], .data (c6.2.flatMap cel60)]) (fun _ => rfl) ?_ fuel ((w64 ((p_m.Borders.length : Int) - 1)), ([] : List S_api_Span)) h
   clear h
   intro n7 c6 h hrn7
   change F16L1 p_m (n7 + 1) c6 = some o5 at h
   rw [F16L1] at h
   refine awp_seq (g0 [1, 2, 5, 6, 32] [] [(1, .d (L65 p_x)), (2, .ref 0 0), (5, .ref 1 0), (6, vi c6.1), (32, vb (decide (c6.1 ≥ 0)))] [mc p_m, .cells [.sl 2 2 0 c6.2.length, vi p_m.Step, .d dnil, .d (L51 p_m.Sides), vi p_m.Inks, .d (L51 p_m.Like)], .data (c6.2.flatMap cel60)] ?_)
   refine awp_cond (b := (decide (c6.1 ≥ 0))) (by kernel_rfl) (fun hb8 => ?_) (fun hb8 => ?_)
   ·rw [if_pos hb8] at h
    refine awp_skip ?_
    show awp ..
    refine awp_seq (awp_block ?_)
    obtain ⟨x9, hx9, h⟩ := ob h
    obtain ⟨x10, hx10, h⟩ := ob h
    obtain ⟨x11, hx11, h⟩ := ob h
    obtain ⟨x12, hx12, h⟩ := ob h
    refine awp_draw (T' := [(1, .d (L65 p_x)), (2, .ref 0 0), (5, .ref 1 0), (6, vi c6.1)]) (H' := [mc p_m, .cells [.sl 2 2 0 (c6.2 ++ ([(⟨x11.Lo, x11.Hi⟩ : S_api_Span)] : List S_api_Span)).length, vi p_m.Step, .d dnil, .d (L51 p_m.Sides), vi p_m.Inks, .d (L51 p_m.Like)], .data ((c6.2 ++ ([(⟨x11.Lo, x11.Hi⟩ : S_api_Span)] : List S_api_Span)).flatMap cel60)]) (ps := [IX60 p_m.Borders c6.1 x9, IX60 p_m.Borders c6.1 x10, PCall Try.prog 47 [(di (w64 (9001 - x9.Hi))), (di (w64 (9001 - x10.Lo)))] (.d (.agg [(di x11.Lo), (di x11.Hi)])), AppendOk ((c6.2.flatMap cel60).map .d) c6.2.length ([(⟨x11.Lo, x11.Hi⟩ : S_api_Span)] : List S_api_Span).length (c6.2 ++ ([(⟨x11.Lo, x11.Hi⟩ : S_api_Span)] : List S_api_Span)).length 2 16 (([(⟨x11.Lo, x11.Hi⟩ : S_api_Span)] : List S_api_Span).flatMap cel60) ((c6.2 ++ ([(⟨x11.Lo, x11.Hi⟩ : S_api_Span)] : List S_api_Span)).flatMap cel60)]) tt_ok mixed (ks := [1, 2, 5, 6]) (hs := [.no, .no, .no, .no, .no, .cells (cel60 x9), .no, .no, .no, .no, .no, .no, .cells (cel60 x10), .no, .no, .no, .call [(di (w64 (9001 - x9.Hi))), (di (w64 (9001 - x10.Lo)))] (.d (.agg [(di x11.Lo), (di x11.Hi)])), .no, .list (c6.2 ++ ([(⟨x11.Lo, x11.Hi⟩ : S_api_Span)] : List S_api_Span)).length ((c6.2 ++ ([(⟨x11.Lo, x11.Hi⟩ : S_api_Span)] : List S_api_Span)).flatMap cel60)]) (m := 18) (mid := [1, 2, 5, 6, 36, 52, 53, 54]) (by kernel_rfl) (And.intro (idxOk cel60_len hx9) (And.intro (idxOk cel60_len hx10) (And.intro (ct47 hx11) (appendOk cel60_len (need_of hx12))))) ?_
    show awp ..
    refine x0 [1, 2, 5, 6] [] [(1, .d (L65 p_x)), (2, .ref 0 0), (5, .ref 1 0), (6, vi (w64 (c6.1 - 1)))] [mc p_m, .cells [.sl 2 2 0 (c6.2 ++ ([(⟨x11.Lo, x11.Hi⟩ : S_api_Span)] : List S_api_Span)).length, vi p_m.Step, .d dnil, .d (L51 p_m.Sides), vi p_m.Inks, .d (L51 p_m.Like)], .data ((c6.2 ++ ([(⟨x11.Lo, x11.Hi⟩ : S_api_Span)] : List S_api_Span)).flatMap cel60)] ?_
    exact gn 3 [1, 2, 5, 6] (hrn7 ((w64 (c6.1 - 1)), (c6.2 ++ ([(⟨x11.Lo, x11.Hi⟩ : S_api_Span)] : List S_api_Span))) h)
   ·rw [if_neg (ntrue hb8)] at h
    refine awp_exit ?_
    obtain rfl := Option.some.inj h
    exact gs [0, 1, 2] [1, 2, 5] OutQ.norm
  ·intro e T H hq
   cases o5 with
   | inl ro5 =>
    obtain ⟨rfl, rfl, rfl⟩ := hq
    rw [outK_inl] at h
    obtain rfl := Option.some.inj h
    exact gm
   | inr so5 =>
    obtain ⟨rfl, rfl, rfl⟩ := hq
    rw [outK_inr] at h
    show awp ..
    refine awp_seq (g0 [1, 2, 5, 7] [] [(1, .d (L65 p_x)), (2, .ref 0 0), (5, .ref 1 0), (7, vi 0)] [mc p_m, .cells [.sl 2 2 0 so5.length, vi p_m.Step, .d dnil, .d (L51 p_m.Sides), vi p_m.Inks, .d (L51 p_m.Like)], .data (so5.flatMap cel60)] ?_)
    refine awp_nilC 1 2 2 [.sl 2 2 0 so5.length, vi p_m.Step, .d dnil, .d (L51 p_m.Sides), vi p_m.Inks, .d (L51 p_m.Like)] [mc p_m, .cells [.sl 2 2 0 so5.length, vi p_m.Step, .sl 2 3 0 ([] : List S_api_Span).length, .d (L51 p_m.Sides), vi p_m.Inks, .d (L51 p_m.Like)], .data (so5.flatMap cel60), .data (([] : List S_api_Span).flatMap cel60)] (by kernel_rfl) (by kernel_rfl) (by kernel_rfl) ?_
    refine gw 4 [1, 2, 5, 7] [(1, .d (L65 p_x)), (2, .ref 0 0), (5, .ref 1 0), (7, vi 0)] [mc p_m, .cells [.sl 2 2 0 so5.length, vi p_m.Step, .sl 2 3 0 ([] : List S_api_Span).length, .d (L51 p_m.Sides), vi p_m.Inks, .d (L51 p_m.Like)], .data (so5.flatMap cel60), .data (([] : List S_api_Span).flatMap cel60)] ?_
    obtain ⟨o14, ho14, h⟩ := ob h
    refine awp_cut1 (OutQ (fun (ro14 : Bool) => [(4, vb ro14)]) (fun (ro14 : Bool) => []) (fun (so14 : (List S_api_Span)) => [(1, .d (L65 p_x)), (2, .ref 0 0), (5, .ref 1 0)]) (fun (so14 : (List S_api_Span)) => [mc p_m, .cells [.sl 2 2 0 so5.length, vi p_m.Step, .sl 2 3 0 so14.length, .d (L51 p_m.Sides), vi p_m.Inks, .d (L51 p_m.Like)], .data (so5.flatMap cel60), .data (so14.flatMap cel60)]) o14) ?_ ?_
    ·clear h
     have h := ho14
     clear ho14
     refine awp_selQ (gw 4 [1, 2, 5, 7] [(1, .d (L65 p_x)), (2, .ref 0 0), (5, .ref 1 0), (7, vi 0)] [mc p_m, .cells [.sl 2 2 0 so5.length, vi p_m.Step, .sl 2 3 0 ([] : List S_api_Span).length, .d (L51 p_m.Sides), vi p_m.Inks, .d (L51 p_m.Like)], .data (so5.flatMap cel60), .data (([] : List S_api_Span).flatMap cel60)] ?_)
     refine awp_block (awp_loop (n := fuel) ?_)
     refine awpN_ind (fun n (c15 : Int × (List S_api_Span)) => F16L2 p_m n c15) o14 (fun (c15 : Int × (List S_api_Span)) => [(1, .d (L65 p_x)), (2, .ref 0 0), (5, .ref 1 0), (7, vi c15.1)]) (fun (c15 : Int × (List S_api_Span)) => [mc p_m, .cells [.sl 2 2 0 so5.length, vi p_m.Step, .sl 2 3 0 c15.2.length, .d (L51 p_m.Sides), vi p_m.Inks, .d (L51 p_m.Like)], .data (so5.flatMap cel60), .data (c15.2.flatMap cel60)]) (fun _ => rfl) ?_ fuel (0, ([] : List S_api_Span)) h
     clear h
     intro n16 c15 h hrn16
     change F16L2 p_m (n16 + 1) c15 = some o14 at h
     rw [F16L2] at h
     refine awp_seq (g0 [1, 2, 5, 7, 59] [] [(1, .d (L65 p_x)), (2, .ref 0 0), (5, .ref 1 0), (7, vi c15.1), (59, vb (decide (c15.1 < (p_m.Heights.length : Int))))] [mc p_m, .cells [.sl 2 2 0 so5.length, vi p_m.Step, .sl 2 3 0 c15.2.length, .d (L51 p_m.Sides), vi p_m.Inks, .d (L51 p_m.Like)], .data (so5.flatMap cel60), .data (c15.2.flatMap cel60)] ?_)
     refine awp_cond (b := (decide (c15.1 < (p_m.Heights.length : Int)))) (by kernel_rfl) (fun hb17 => ?_) (fun hb17 => ?_)
     ·rw [if_pos hb17] at h
      refine awp_skip ?_
      show awp ..
      refine awp_seq (awp_block ?_)
      obtain ⟨x18, hx18, h⟩ := ob h
      obtain ⟨x19, hx19, h⟩ := ob h
      obtain ⟨x20, hx20, h⟩ := ob h
      obtain ⟨x21, hx21, h⟩ := ob h
      refine awp_draw (T' := [(1, .d (L65 p_x)), (2, .ref 0 0), (5, .ref 1 0), (7, vi c15.1)]) (H' := [mc p_m, .cells [.sl 2 2 0 so5.length, vi p_m.Step, .sl 2 3 0 (c15.2 ++ ([(⟨x20.Lo, x20.Hi⟩ : S_api_Span)] : List S_api_Span)).length, .d (L51 p_m.Sides), vi p_m.Inks, .d (L51 p_m.Like)], .data (so5.flatMap cel60), .data ((c15.2 ++ ([(⟨x20.Lo, x20.Hi⟩ : S_api_Span)] : List S_api_Span)).flatMap cel60)]) (ps := [IX60 p_m.Heights c15.1 x18, IX60 p_m.Heights c15.1 x19, PCall Try.prog 47 [(di (w64 (9000 - x18.Hi))), (di (w64 (9000 - x19.Lo)))] (.d (.agg [(di x20.Lo), (di x20.Hi)])), AppendOk ((c15.2.flatMap cel60).map .d) c15.2.length ([(⟨x20.Lo, x20.Hi⟩ : S_api_Span)] : List S_api_Span).length (c15.2 ++ ([(⟨x20.Lo, x20.Hi⟩ : S_api_Span)] : List S_api_Span)).length 2 16 (([(⟨x20.Lo, x20.Hi⟩ : S_api_Span)] : List S_api_Span).flatMap cel60) ((c15.2 ++ ([(⟨x20.Lo, x20.Hi⟩ : S_api_Span)] : List S_api_Span)).flatMap cel60)]) tt_ok mixed (ks := [1, 2, 5, 7]) (hs := [.no, .no, .no, .no, .no, .cells (cel60 x18), .no, .no, .no, .no, .no, .no, .cells (cel60 x19), .no, .no, .no, .call [(di (w64 (9000 - x18.Hi))), (di (w64 (9000 - x19.Lo)))] (.d (.agg [(di x20.Lo), (di x20.Hi)])), .no, .list (c15.2 ++ ([(⟨x20.Lo, x20.Hi⟩ : S_api_Span)] : List S_api_Span)).length ((c15.2 ++ ([(⟨x20.Lo, x20.Hi⟩ : S_api_Span)] : List S_api_Span)).flatMap cel60)]) (m := 18) (mid := [1, 2, 5, 7, 63, 79, 80, 81]) (by kernel_rfl) (And.intro (idxOk cel60_len hx18) (And.intro (idxOk cel60_len hx19) (And.intro (ct47 hx20) (appendOk cel60_len (need_of hx21))))) ?_
      show awp ..
      refine x0 [1, 2, 5, 7] [] [(1, .d (L65 p_x)), (2, .ref 0 0), (5, .ref 1 0), (7, vi (w64 (c15.1 + 1)))] [mc p_m, .cells [.sl 2 2 0 so5.length, vi p_m.Step, .sl 2 3 0 (c15.2 ++ ([(⟨x20.Lo, x20.Hi⟩ : S_api_Span)] : List S_api_Span)).length, .d (L51 p_m.Sides), vi p_m.Inks, .d (L51 p_m.Like)], .data (so5.flatMap cel60), .data ((c15.2 ++ ([(⟨x20.Lo, x20.Hi⟩ : S_api_Span)] : List S_api_Span)).flatMap cel60)] ?_
      exact gn 4 [1, 2, 5, 7] (hrn16 ((w64 (c15.1 + 1)), (c15.2 ++ ([(⟨x20.Lo, x20.Hi⟩ : S_api_Span)] : List S_api_Span))) h)
     ·rw [if_neg (ntrue hb17)] at h
      refine awp_exit ?_
      obtain rfl := Option.some.inj h
      exact gs [0, 1, 2, 3] [1, 2, 5] OutQ.norm
    ·intro e T H hq
     cases o14 with
     | inl ro14 =>
      obtain ⟨rfl, rfl, rfl⟩ := hq
      rw [outK_inl] at h
      obtain rfl := Option.some.inj h
      exact gm
     | inr so14 =>
      obtain ⟨rfl, rfl, rfl⟩ := hq
      rw [outK_inr] at h
      show awp ..
      refine awp_seq (awp_freezeC 1 0 2 (so5.flatMap cel60) [.sl 2 2 0 so5.length, vi p_m.Step, .sl 2 3 0 so14.length, .d (L51 p_m.Sides), vi p_m.Inks, .d (L51 p_m.Like)] (.sl 2 2 0 so5.length) (.d (L60 so5)) _ _ (ps := [(so5.flatMap cel60).length = so5.length * 2]) (by kernel_rfl) (by kernel_rfl) (by kernel_rfl) (by kernel_rfl) (flatMap_len cel60 2 cel60_len so5) rfl rfl ?_)
      refine gw 4 [1, 2, 5] [(1, .d (L65 p_x)), (2, .ref 0 0), (5, .ref 1 0)] [mc p_m, .cells [.d (L60 so5), vi p_m.Step, .sl 2 3 0 so14.length, .d (L51 p_m.Sides), vi p_m.Inks, .d (L51 p_m.Like)], .data (([] : List S_api_Span).flatMap cel60), .data (so14.flatMap cel60)] ?_
      refine awp_freezeC 1 2 3 (so14.flatMap cel60) [.d (L60 so5), vi p_m.Step, .sl 2 3 0 so14.length, .d (L51 p_m.Sides), vi p_m.Inks, .d (L51 p_m.Like)] (.sl 2 3 0 so14.length) (.d (L60 so14)) _ _ (ps := [(so14.flatMap cel60).length = so14.length * 2]) (by kernel_rfl) (by kernel_rfl) (by kernel_rfl) (by kernel_rfl) (flatMap_len cel60 2 cel60_len so14) rfl rfl ?_
      refine gw 4 [1, 2, 5] [(1, .d (L65 p_x)), (2, .ref 0 0), (5, .ref 1 0)] [mc p_m, .cells [.d (L60 so5), vi p_m.Step, .d (L60 so14), .d (L51 p_m.Sides), vi p_m.Inks, .d (L51 p_m.Like)], .data (([] : List S_api_Span).flatMap cel60), .data (([] : List S_api_Span).flatMap cel60)] ?_
      obtain ⟨x22, hx22, h⟩ := ob h
      refine gr [1, 2, 5, 84] [.no, .call [(.agg [(L60 so5), (di p_m.Step), (L60 so14), (L51 p_m.Sides), (di p_m.Inks), (L51 p_m.Like)])] (vb x22)] [(1, .d (L65 p_x)), (2, .ref 0 0), (5, .ref 1 0), (84, vb (!x22))] [mc p_m, .cells [.d (L60 so5), vi p_m.Step, .d (L60 so14), .d (L51 p_m.Sides), vi p_m.Inks, .d (L51 p_m.Like)], .data (([] : List S_api_Span).flatMap cel60), .data (([] : List S_api_Span).flatMap cel60)] [PCall Try.prog 39 [(.agg [(L60 so5), (di p_m.Step), (L60 so14), (L51 p_m.Sides), (di p_m.Inks), (L51 p_m.Like)])] (vb x22)] (ct39 hx22) ?_
      refine awp_cond (b := (!x22)) (by kernel_rfl) (fun hb23 => ?_) (fun hb23 => ?_)
      ·rw [if_pos hb23] at h
       obtain ⟨x24, hx24, h⟩ := ob h
       refine gr [4] [.call [] (vb x24)] [(4, vb x24)] [mc p_m, .cells [.d (L60 so5), vi p_m.Step, .d (L60 so14), .d (L51 p_m.Sides), vi p_m.Inks, .d (L51 p_m.Like)], .data (([] : List S_api_Span).flatMap cel60), .data (([] : List S_api_Span).flatMap cel60)] [PCall Try.prog 30 [] (vb x24)] (ct30 hx24) ?_
       obtain rfl := Option.some.inj h
       refine gw 4 [4] [(4, vb x24)] [mc p_m, .cells [.d (L60 so5), vi p_m.Step, .d (L60 so14), .d (L51 p_m.Sides), vi p_m.Inks, .d (L51 p_m.Like)], .data (([] : List S_api_Span).flatMap cel60), .data (([] : List S_api_Span).flatMap cel60)] ?_
       exact awp_ret gm
      ·rw [if_neg (ntrue hb23)] at h
       refine awp_skip ?_
       show awp ..
       obtain ⟨x25, hx25, h⟩ := ob h
       refine gr [1, 2, 5, 9, 10] [.no, .call [(ma p_m)] (.tup [.d (L3 x25.1), vi x25.2.1, vi x25.2.2])] [(1, .d (L65 p_x)), (2, .ref 0 0), (5, .ref 1 0), (9, vi x25.2.1), (10, vi x25.2.2)] [mc p_m, .cells [.d (L60 so5), vi p_m.Step, .d (L60 so14), .d (L51 p_m.Sides), vi p_m.Inks, .d (L51 p_m.Like)], .data (([] : List S_api_Span).flatMap cel60), .data (([] : List S_api_Span).flatMap cel60)] [PCall Try.prog 35 [(ma p_m)] (.tup [.d (L3 x25.1), vi x25.2.1, vi x25.2.2])] (ct35 hx25) ?_
       obtain ⟨x26, hx26, h⟩ := ob h
       refine gr [1, 2, 5, 9, 10, 12, 13] [.no, .call [(.agg [(L60 so5), (di p_m.Step), (L60 so14), (L51 p_m.Sides), (di p_m.Inks), (L51 p_m.Like)])] (.tup [.d (L3 x26.1), vi x26.2.1, vi x26.2.2])] [(1, .d (L65 p_x)), (2, .ref 0 0), (5, .ref 1 0), (9, vi x25.2.1), (10, vi x25.2.2), (12, vi x26.2.1), (13, vi x26.2.2)] [mc p_m, .cells [.d (L60 so5), vi p_m.Step, .d (L60 so14), .d (L51 p_m.Sides), vi p_m.Inks, .d (L51 p_m.Like)], .data (([] : List S_api_Span).flatMap cel60), .data (([] : List S_api_Span).flatMap cel60)] [PCall Try.prog 35 [(.agg [(L60 so5), (di p_m.Step), (L60 so14), (L51 p_m.Sides), (di p_m.Inks), (L51 p_m.Like)])] (.tup [.d (L3 x26.1), vi x26.2.1, vi x26.2.2])] (ct35 hx26) ?_
       refine awp_seq (gr [1, 2, 5, 105] [] [(1, .d (L65 p_x)), (2, .ref 0 0), (5, .ref 1 0), (105, vb (cond (x25.2.1 != x26.2.1) true (x25.2.2 != x26.2.2)))] [mc p_m, .cells [.d (L60 so5), vi p_m.Step, .d (L60 so14), .d (L51 p_m.Sides), vi p_m.Inks, .d (L51 p_m.Like)], .data (([] : List S_api_Span).flatMap cel60), .data (([] : List S_api_Span).flatMap cel60)] [((!(x25.2.1 != x26.2.1)) = true → (!(x25.2.1 != x26.2.1)) = true), ((!(x25.2.1 != x26.2.1)) = true → (!(x25.2.1 != x26.2.1)) = true), ((x25.2.1 != x26.2.1) = false → (!(x25.2.1 != x26.2.1)) = true)] (And.intro (id) (And.intro (id) (not_of))) ?_)
       refine awp_cond (b := (cond (x25.2.1 != x26.2.1) true (x25.2.2 != x26.2.2))) (by kernel_rfl) (fun hb27 => ?_) (fun hb27 => ?_)
       ·rw [if_pos hb27] at h
        refine g0 [4] [] [(4, vb false)] [mc p_m, .cells [.d (L60 so5), vi p_m.Step, .d (L60 so14), .d (L51 p_m.Sides), vi p_m.Inks, .d (L51 p_m.Like)], .data (([] : List S_api_Span).flatMap cel60), .data (([] : List S_api_Span).flatMap cel60)] ?_
        obtain rfl := Option.some.inj h
        refine gw 4 [4] [(4, vb false)] [mc p_m, .cells [.d (L60 so5), vi p_m.Step, .d (L60 so14), .d (L51 p_m.Sides), vi p_m.Inks, .d (L51 p_m.Like)], .data (([] : List S_api_Span).flatMap cel60), .data (([] : List S_api_Span).flatMap cel60)] ?_
        exact awp_ret gm
       ·rw [if_neg (ntrue hb27)] at h
        refine awp_skip ?_
        show awp ..
        obtain ⟨x28, hx28, h⟩ := ob h
        refine gr [2, 5, 14] [.no, .no, .call [(ma p_m), (L65 p_x)] (.d (L3 x28))] [(2, .ref 0 0), (5, .ref 1 0), (14, .d (L3 x28))] [mc p_m, .cells [.d (L60 so5), vi p_m.Step, .d (L60 so14), .d (L51 p_m.Sides), vi p_m.Inks, .d (L51 p_m.Like)], .data (([] : List S_api_Span).flatMap cel60), .data (([] : List S_api_Span).flatMap cel60)] [PCall Try.prog 40 [(ma p_m), (L65 p_x)] (.d (L3 x28))] (ct40 hx28) ?_
        refine awp_seq ?_
        obtain ⟨x29, hx29, h⟩ := ob h
        refine gr [2, 5, 14, 112] [.no, .no, .call [(ma p_m), (L3 x28)] (vb x29)] [(2, .ref 0 0), (5, .ref 1 0), (14, .d (L3 x28)), (112, vb (!x29))] [mc p_m, .cells [.d (L60 so5), vi p_m.Step, .d (L60 so14), .d (L51 p_m.Sides), vi p_m.Inks, .d (L51 p_m.Like)], .data (([] : List S_api_Span).flatMap cel60), .data (([] : List S_api_Span).flatMap cel60)] [PCall Try.prog 41 [(ma p_m), (L3 x28)] (vb x29)] (ct41 hx29) ?_
        refine awp_cond (b := (!x29)) (by kernel_rfl) (fun hb30 => ?_) (fun hb30 => ?_)
        ·rw [if_pos hb30] at h
         obtain ⟨x31, hx31, h⟩ := ob h
         refine gr [4] [.call [] (vb x31)] [(4, vb x31)] [mc p_m, .cells [.d (L60 so5), vi p_m.Step, .d (L60 so14), .d (L51 p_m.Sides), vi p_m.Inks, .d (L51 p_m.Like)], .data (([] : List S_api_Span).flatMap cel60), .data (([] : List S_api_Span).flatMap cel60)] [PCall Try.prog 30 [] (vb x31)] (ct30 hx31) ?_
         obtain rfl := Option.some.inj h
         refine gw 4 [4] [(4, vb x31)] [mc p_m, .cells [.d (L60 so5), vi p_m.Step, .d (L60 so14), .d (L51 p_m.Sides), vi p_m.Inks, .d (L51 p_m.Like)], .data (([] : List S_api_Span).flatMap cel60), .data (([] : List S_api_Span).flatMap cel60)] ?_
         exact awp_ret gm
        ·rw [if_neg (ntrue hb30)] at h
         refine awp_skip ?_
         show awp ..
         refine g0 [2, 5, 14, 15] [] [(2, .ref 0 0), (5, .ref 1 0), (14, .d (L3 x28)), (15, .d dnil)] [mc p_m, .cells [.d (L60 so5), vi p_m.Step, .d (L60 so14), .d (L51 p_m.Sides), vi p_m.Inks, .d (L51 p_m.Like)], .data (([] : List S_api_Span).flatMap cel60), .data (([] : List S_api_Span).flatMap cel60)] ?_
         refine awp_seq (g0 [2, 5, 14, 15, 16] [] [(2, .ref 0 0), (5, .ref 1 0), (14, .d (L3 x28)), (15, .d dnil), (16, vi (w64 ((x28.length : Int) - 1)))] [mc p_m, .cells [.d (L60 so5), vi p_m.Step, .d (L60 so14), .d (L51 p_m.Sides), vi p_m.Inks, .d (L51 p_m.Like)], .data (([] : List S_api_Span).flatMap cel60), .data (([] : List S_api_Span).flatMap cel60)] ?_)
         refine awp_nil 15 1 (by kernel_rfl) ?_
         refine awp_eq (T' := [(15, .sl 1 4 0 ([] : List Int).length), (2, .ref 0 0), (5, .ref 1 0), (14, .d (L3 x28)), (16, vi (w64 ((x28.length : Int) - 1)))]) (H' := [mc p_m, .cells [.d (L60 so5), vi p_m.Step, .d (L60 so14), .d (L51 p_m.Sides), vi p_m.Inks, .d (L51 p_m.Like)], .data (([] : List S_api_Span).flatMap cel60), .data (([] : List S_api_Span).flatMap cel60), .data (([] : List Int).flatMap cel3)]) (by kernel_rfl) (by kernel_rfl) ?_
         refine gw 5 [2, 5, 14, 15, 16] [(2, .ref 0 0), (5, .ref 1 0), (14, .d (L3 x28)), (15, .sl 1 4 0 ([] : List Int).length), (16, vi (w64 ((x28.length : Int) - 1)))] [mc p_m, .cells [.d (L60 so5), vi p_m.Step, .d (L60 so14), .d (L51 p_m.Sides), vi p_m.Inks, .d (L51 p_m.Like)], .data (([] : List S_api_Span).flatMap cel60), .data (([] : List S_api_Span).flatMap cel60), .data (([] : List Int).flatMap cel3)] ?_
         obtain ⟨o33, ho33, h⟩ := ob h
         refine awp_cut1 (OutQ (fun (ro33 : Bool) => [(4, vb ro33)]) (fun (ro33 : Bool) => []) (fun (so33 : (List Int)) => [(2, .ref 0 0), (5, .ref 1 0), (14, .d (L3 x28)), (15, .sl 1 4 0 so33.length)]) (fun (so33 : (List Int)) => [mc p_m, .cells [.d (L60 so5), vi p_m.Step, .d (L60 so14), .d (L51 p_m.Sides), vi p_m.Inks, .d (L51 p_m.Like)], .data (([] : List S_api_Span).flatMap cel60), .data (([] : List S_api_Span).flatMap cel60), .data (so33.flatMap cel3)]) o33) ?_ ?_
         ·clear h
          have h := ho33
          clear ho33
          refine awp_selQ (gw 5 [2, 5, 14, 15, 16] [(2, .ref 0 0), (5, .ref 1 0), (14, .d (L3 x28)), (15, .sl 1 4 0 ([] : List Int).length), (16, vi (w64 ((x28.length : Int) - 1)))] [mc p_m, .cells [.d (L60 so5), vi p_m.Step, .d (L60 so14), .d (L51 p_m.Sides), vi p_m.Inks, .d (L51 p_m.Like)], .data (([] : List S_api_Span).flatMap cel60), .data (([] : List S_api_Span).flatMap cel60), .data (([] : List Int).flatMap cel3)] ?_)
          refine awp_block (awp_loop (n := fuel) ?_)
          refine awpN_ind (fun n (c34 : Int × (List Int)) => F16L3 x28 n c34) o33 (fun (c34 : Int × (List Int)) => [(2, .ref 0 0), (5, .ref 1 0), (14, .d (L3 x28)), (15, .sl 1 4 0 c34.2.length), (16, vi c34.1)]) (fun (c34 : Int × (List Int)) => [mc p_m, .cells [.d (L60 so5), vi p_m.Step, .d (L60 so14), .d (L51 p_m.Sides), vi p_m.Inks, .d (L51 p_m.Like)], .data (([] : List S_api_Span).flatMap cel60), .data (([] : List S_api_Span).flatMap cel60), .data (c34.2.flatMap cel3)]) (fun _ => rfl) ?_ fuel ((w64 ((x28.length : Int) - 1)), ([] : List Int)) h
          clear h
          intro n35 c34 h hrn35
          change F16L3 x28 (n35 + 1) c34 = some o33 at h
          rw [F16L3] at h
          refine awp_seq (g0 [2, 5, 14, 15, 16, 118] [] [(2, .ref 0 0), (5, .ref 1 0), (14, .d (L3 x28)), (15, .sl 1 4 0 c34.2.length), (16, vi c34.1), (118, vb (decide (c34.1 ≥ 0)))] [mc p_m, .cells [.d (L60 so5), vi p_m.Step, .d (L60 so14), .d (L51 p_m.Sides), vi p_m.Inks, .d (L51 p_m.Like)], .data (([] : List S_api_Span).flatMap cel60), .data (([] : List S_api_Span).flatMap cel60), .data (c34.2.flatMap cel3)] ?_)
          refine awp_cond (b := (decide (c34.1 ≥ 0))) (by kernel_rfl) (fun hb36 => ?_) (fun hb36 => ?_)
          ·rw [if_pos hb36] at h
           refine awp_skip ?_
           show awp ..
           refine awp_seq (awp_block ?_)
           obtain ⟨x37, hx37, h⟩ := ob h
           obtain ⟨x38, hx38, h⟩ := ob h
           refine xr [2, 5, 14, 15, 16] [.no, .no, .no, .cells (cel3 x37), .no, .no, .no, .list (c34.2 ++ ([(w64 (9001 - x37))] : List Int)).length ((c34.2 ++ ([(w64 (9001 - x37))] : List Int)).flatMap cel3)] [(2, .ref 0 0), (5, .ref 1 0), (14, .d (L3 x28)), (15, .sl 1 4 0 (c34.2 ++ ([(w64 (9001 - x37))] : List Int)).length), (16, vi c34.1)] [mc p_m, .cells [.d (L60 so5), vi p_m.Step, .d (L60 so14), .d (L51 p_m.Sides), vi p_m.Inks, .d (L51 p_m.Like)], .data (([] : List S_api_Span).flatMap cel60), .data (([] : List S_api_Span).flatMap cel60), .data ((c34.2 ++ ([(w64 (9001 - x37))] : List Int)).flatMap cel3)] [IX3 x28 c34.1 x37, AppendOk ((c34.2.flatMap cel3).map .d) c34.2.length ([(w64 (9001 - x37))] : List Int).length (c34.2 ++ ([(w64 (9001 - x37))] : List Int)).length 1 8 (([(w64 (9001 - x37))] : List Int).flatMap cel3) ((c34.2 ++ ([(w64 (9001 - x37))] : List Int)).flatMap cel3)] (And.intro (idxOk cel3_len hx37) (appendOk cel3_len (need_of hx38))) ?_
           show awp ..
           refine x0 [2, 5, 14, 15, 16] [] [(2, .ref 0 0), (5, .ref 1 0), (14, .d (L3 x28)), (15, .sl 1 4 0 (c34.2 ++ ([(w64 (9001 - x37))] : List Int)).length), (16, vi (w64 (c34.1 - 1)))] [mc p_m, .cells [.d (L60 so5), vi p_m.Step, .d (L60 so14), .d (L51 p_m.Sides), vi p_m.Inks, .d (L51 p_m.Like)], .data (([] : List S_api_Span).flatMap cel60), .data (([] : List S_api_Span).flatMap cel60), .data ((c34.2 ++ ([(w64 (9001 - x37))] : List Int)).flatMap cel3)] ?_
           exact gn 5 [2, 5, 14, 15, 16] (hrn35 ((w64 (c34.1 - 1)), (c34.2 ++ ([(w64 (9001 - x37))] : List Int))) h)
          ·rw [if_neg (ntrue hb36)] at h
           refine awp_exit ?_
           obtain rfl := Option.some.inj h
           exact gs [0, 1, 2, 3, 4] [2, 5, 14, 15] OutQ.norm
         ·intro e T H hq
          cases o33 with
          | inl ro33 =>
           obtain ⟨rfl, rfl, rfl⟩ := hq
           rw [outK_inl] at h
           obtain rfl := Option.some.inj h
           exact gm
          | inr so33 =>
           obtain ⟨rfl, rfl, rfl⟩ := hq
           rw [outK_inr] at h
           show awp ..
           obtain ⟨x39, hx39, h⟩ := ob h
           refine gr [5, 10, 14, 15, 17] [.no, .no, .call [(ma p_m), (L3 x28)] (.tup [.d (L60 x39.1), vi x39.2])] [(5, .ref 1 0), (10, vi x39.2), (14, .d (L3 x28)), (15, .sl 1 4 0 so33.length), (17, .d (L60 x39.1))] [mc p_m, .cells [.d (L60 so5), vi p_m.Step, .d (L60 so14), .d (L51 p_m.Sides), vi p_m.Inks, .d (L51 p_m.Like)], .data (([] : List S_api_Span).flatMap cel60), .data (([] : List S_api_Span).flatMap cel60), .data (so33.flatMap cel3)] [PCall Try.prog 21 [(ma p_m), (L3 x28)] (.tup [.d (L60 x39.1), vi x39.2])] (ct21 hx39) ?_
           refine awp_freeze 15 4 (so33.flatMap cel3) (.sl 1 4 0 so33.length) (.d (L3 so33)) _ _ (ps := [(so33.flatMap cel3).length = so33.length * 1]) (by kernel_rfl) (by kernel_rfl) (by kernel_rfl) (flatMap_len cel3 1 cel3_len so33) rfl rfl ?_
           refine gw 5 [5, 10, 14, 15, 17] [(5, .ref 1 0), (10, vi x39.2), (14, .d (L3 x28)), (15, .d (L3 so33)), (17, .d (L60 x39.1))] [mc p_m, .cells [.d (L60 so5), vi p_m.Step, .d (L60 so14), .d (L51 p_m.Sides), vi p_m.Inks, .d (L51 p_m.Like)], .data (([] : List S_api_Span).flatMap cel60), .data (([] : List S_api_Span).flatMap cel60), .data (([] : List Int).flatMap cel3)] ?_
           obtain ⟨x40, hx40, h⟩ := ob h
           refine gr [10, 13, 14, 17, 18] [.no, .no, .call [(.agg [(L60 so5), (di p_m.Step), (L60 so14), (L51 p_m.Sides), (di p_m.Inks), (L51 p_m.Like)]), (L3 so33)] (.tup [.d (L60 x40.1), vi x40.2])] [(10, vi x39.2), (13, vi x40.2), (14, .d (L3 x28)), (17, .d (L60 x39.1)), (18, .d (L60 x40.1))] [mc p_m, .cells [.d (L60 so5), vi p_m.Step, .d (L60 so14), .d (L51 p_m.Sides), vi p_m.Inks, .d (L51 p_m.Like)], .data (([] : List S_api_Span).flatMap cel60), .data (([] : List S_api_Span).flatMap cel60), .data (([] : List Int).flatMap cel3)] [PCall Try.prog 21 [(.agg [(L60 so5), (di p_m.Step), (L60 so14), (L51 p_m.Sides), (di p_m.Inks), (L51 p_m.Like)]), (L3 so33)] (.tup [.d (L60 x40.1), vi x40.2])] (ct21 hx40) ?_
           refine awp_seq (gr [14, 17, 18, 153] [] [(14, .d (L3 x28)), (17, .d (L60 x39.1)), (18, .d (L60 x40.1)), (153, vb (cond (cond (x39.2 != 0) true (x40.2 != 0)) true ((x39.1.length : Int) != (x40.1.length : Int))))] [mc p_m, .cells [.d (L60 so5), vi p_m.Step, .d (L60 so14), .d (L51 p_m.Sides), vi p_m.Inks, .d (L51 p_m.Like)], .data (([] : List S_api_Span).flatMap cel60), .data (([] : List S_api_Span).flatMap cel60), .data (([] : List Int).flatMap cel3)] [((!(x39.2 != 0)) = true → (!(x39.2 != 0)) = true), ((x39.2 != 0) = false → (!(x39.2 != 0)) = true), ((!(cond (x39.2 != 0) true (x40.2 != 0))) = true → (!(cond (x39.2 != 0) true (x40.2 != 0))) = true), ((!(cond (x39.2 != 0) true (x40.2 != 0))) = true → (!(cond (x39.2 != 0) true (x40.2 != 0))) = true), ((!(cond (x39.2 != 0) true (x40.2 != 0))) = true → (!(cond (x39.2 != 0) true (x40.2 != 0))) = true), ((!(cond (x39.2 != 0) true (x40.2 != 0))) = true → (!(cond (x39.2 != 0) true (x40.2 != 0))) = true), ((cond (x39.2 != 0) true (x40.2 != 0)) = false → (!(cond (x39.2 != 0) true (x40.2 != 0))) = true)] (And.intro (id) (And.intro (not_of) (And.intro (id) (And.intro (id) (And.intro (id) (And.intro (id) (not_of))))))) ?_)
           refine awp_cond (b := (cond (cond (x39.2 != 0) true (x40.2 != 0)) true ((x39.1.length : Int) != (x40.1.length : Int)))) (by kernel_rfl) (fun hb41 => ?_) (fun hb41 => ?_)
           ·rw [if_pos hb41] at h
            refine g0 [4] [] [(4, vb false)] [mc p_m, .cells [.d (L60 so5), vi p_m.Step, .d (L60 so14), .d (L51 p_m.Sides), vi p_m.Inks, .d (L51 p_m.Like)], .data (([] : List S_api_Span).flatMap cel60), .data (([] : List S_api_Span).flatMap cel60), .data (([] : List Int).flatMap cel3)] ?_
            obtain rfl := Option.some.inj h
            refine gw 5 [4] [(4, vb false)] [mc p_m, .cells [.d (L60 so5), vi p_m.Step, .d (L60 so14), .d (L51 p_m.Sides), vi p_m.Inks, .d (L51 p_m.Like)], .data (([] : List S_api_Span).flatMap cel60), .data (([] : List S_api_Span).flatMap cel60), .data (([] : List Int).flatMap cel3)] ?_
            exact awp_ret gm
           ·rw [if_neg (ntrue hb41)] at h
            refine awp_skip ?_
            show awp ..
            refine awp_seq (g0 [14, 17, 18, 19] [] [(14, .d (L3 x28)), (17, .d (L60 x39.1)), (18, .d (L60 x40.1)), (19, vi 0)] [mc p_m, .cells [.d (L60 so5), vi p_m.Step, .d (L60 so14), .d (L51 p_m.Sides), vi p_m.Inks, .d (L51 p_m.Like)], .data (([] : List S_api_Span).flatMap cel60), .data (([] : List S_api_Span).flatMap cel60), .data (([] : List Int).flatMap cel3)] ?_)
            obtain ⟨o42, ho42, h⟩ := ob h
            refine awp_cut1 (OutQ (fun (ro42 : Bool) => [(4, vb ro42)]) (fun (ro42 : Bool) => []) (fun (so42 : Unit) => []) (fun (so42 : Unit) => [mc p_m, .cells [.d (L60 so5), vi p_m.Step, .d (L60 so14), .d (L51 p_m.Sides), vi p_m.Inks, .d (L51 p_m.Like)], .data (([] : List S_api_Span).flatMap cel60), .data (([] : List S_api_Span).flatMap cel60), .data (([] : List Int).flatMap cel3)]) o42) ?_ ?_
            ·clear h
             have h := ho42
             clear ho42
             refine awp_selQ (gw 5 [14, 17, 18, 19] [(14, .d (L3 x28)), (17, .d (L60 x39.1)), (18, .d (L60 x40.1)), (19, vi 0)] [mc p_m, .cells [.d (L60 so5), vi p_m.Step, .d (L60 so14), .d (L51 p_m.Sides), vi p_m.Inks, .d (L51 p_m.Like)], .data (([] : List S_api_Span).flatMap cel60), .data (([] : List S_api_Span).flatMap cel60), .data (([] : List Int).flatMap cel3)] ?_)
             refine awp_block (awp_loop (n := fuel) ?_)
             refine awpN_ind (fun n (c43 : Int) => F16L4 x28 x39 x40 n c43) o42 (fun (c43 : Int) => [(14, .d (L3 x28)), (17, .d (L60 x39.1)), (18, .d (L60 x40.1)), (19, vi c43)]) (fun (c43 : Int) => [mc p_m, .cells [.d (L60 so5), vi p_m.Step, .d (L60 so14), .d (L51 p_m.Sides), vi p_m.Inks, .d (L51 p_m.Like)], .data (([] : List S_api_Span).flatMap cel60), .data (([] : List S_api_Span).flatMap cel60), .data (([] : List Int).flatMap cel3)]) (fun _ => rfl) ?_ fuel 0 h
             clear h
             intro n44 c43 h hrn44
             change F16L4 x28 x39 x40 (n44 + 1) c43 = some o42 at h
             rw [F16L4] at h
             refine awp_seq (g0 [14, 17, 18, 19, 157] [] [(14, .d (L3 x28)), (17, .d (L60 x39.1)), (18, .d (L60 x40.1)), (19, vi c43), (157, vb (decide (c43 < (x39.1.length : Int))))] [mc p_m, .cells [.d (L60 so5), vi p_m.Step, .d (L60 so14), .d (L51 p_m.Sides), vi p_m.Inks, .d (L51 p_m.Like)], .data (([] : List S_api_Span).flatMap cel60), .data (([] : List S_api_Span).flatMap cel60), .data (([] : List Int).flatMap cel3)] ?_)
             refine awp_cond (b := (decide (c43 < (x39.1.length : Int)))) (by kernel_rfl) (fun hb45 => ?_) (fun hb45 => ?_)
             ·rw [if_pos hb45] at h
              refine awp_skip ?_
              show awp ..
              refine awp_seq (awp_block ?_)
              obtain ⟨x46, hx46, h⟩ := ob h
              obtain ⟨x47, hx47, h⟩ := ob h
              obtain ⟨x48, hx48, h⟩ := ob h
              obtain ⟨x49, hx49, h⟩ := ob h
              refine awp_sdraw tt_ok mixed (ks := [14, 17, 18, 19, 181]) (hs := [.no, .no, .cells (cel60 x46), .no, .no, .no, .no, .no, .cells (cel60 x47), .no, .no, .no, .no, .no, .no, .no, .cells (cel60 x48), .no, .no, .no, .call [(di (w64 ((x28.length : Int) - x47.Hi))), (di (w64 ((x28.length : Int) - x48.Lo)))] (.d (.agg [(di x49.Lo), (di x49.Hi)]))]) 21 [14, 17, 18, 19, 163, 180, 181] [(14, .d (L3 x28)), (17, .d (L60 x39.1)), (18, .d (L60 x40.1)), (19, vi c43), (181, vb (!((x46.Lo == x49.Lo) && (x46.Hi == x49.Hi))))] [mc p_m, .cells [.d (L60 so5), vi p_m.Step, .d (L60 so14), .d (L51 p_m.Sides), vi p_m.Inks, .d (L51 p_m.Like)], .data (([] : List S_api_Span).flatMap cel60), .data (([] : List S_api_Span).flatMap cel60), .data (([] : List Int).flatMap cel3)] [IX60 x40.1 c43 x46, IX60 x39.1 c43 x47, IX60 x39.1 c43 x48, PCall Try.prog 47 [(di (w64 ((x28.length : Int) - x47.Hi))), (di (w64 ((x28.length : Int) - x48.Lo)))] (.d (.agg [(di x49.Lo), (di x49.Hi)]))] (by kernel_rfl) (And.intro (idxOk cel60_len hx46) (And.intro (idxOk cel60_len hx47) (And.intro (idxOk cel60_len hx48) (ct47 hx49)))) ?_
              refine awp_cond (b := (!((x46.Lo == x49.Lo) && (x46.Hi == x49.Hi)))) (by kernel_rfl) (fun hb50 => ?_) (fun hb50 => ?_)
              ·rw [if_pos hb50] at h
               refine g0 [4] [] [(4, vb false)] [mc p_m, .cells [.d (L60 so5), vi p_m.Step, .d (L60 so14), .d (L51 p_m.Sides), vi p_m.Inks, .d (L51 p_m.Like)], .data (([] : List S_api_Span).flatMap cel60), .data (([] : List S_api_Span).flatMap cel60), .data (([] : List Int).flatMap cel3)] ?_
               obtain rfl := Option.some.inj h
               refine gw 5 [4] [(4, vb false)] [mc p_m, .cells [.d (L60 so5), vi p_m.Step, .d (L60 so14), .d (L51 p_m.Sides), vi p_m.Inks, .d (L51 p_m.Like)], .data (([] : List S_api_Span).flatMap cel60), .data (([] : List S_api_Span).flatMap cel60), .data (([] : List Int).flatMap cel3)] ?_
               exact awp_ret (gs [] [4] OutQ.ret)
              ·rw [if_neg (ntrue hb50)] at h
               refine awp_skip ?_
               show awp ..
               refine x0 [14, 17, 18, 19] [] [(14, .d (L3 x28)), (17, .d (L60 x39.1)), (18, .d (L60 x40.1)), (19, vi (w64 (c43 + 1)))] [mc p_m, .cells [.d (L60 so5), vi p_m.Step, .d (L60 so14), .d (L51 p_m.Sides), vi p_m.Inks, .d (L51 p_m.Like)], .data (([] : List S_api_Span).flatMap cel60), .data (([] : List S_api_Span).flatMap cel60), .data (([] : List Int).flatMap cel3)] ?_
               exact gn 5 [14, 17, 18, 19] (hrn44 (w64 (c43 + 1)) h)
             ·rw [if_neg (ntrue hb45)] at h
              refine awp_exit ?_
              obtain rfl := Option.some.inj h
              exact gs [0, 1, 2, 3, 4] [] OutQ.norm
            ·intro e T H hq
             cases o42 with
             | inl ro42 =>
              obtain ⟨rfl, rfl, rfl⟩ := hq
              rw [outK_inl] at h
              obtain rfl := Option.some.inj h
              exact gm
             | inr so42 =>
              obtain ⟨rfl, rfl, rfl⟩ := hq
              rw [outK_inr] at h
              show awp ..
              obtain ⟨x51, hx51, h⟩ := ob h
              refine gr [4] [.call [] (vb x51)] [(4, vb x51)] [mc p_m, .cells [.d (L60 so5), vi p_m.Step, .d (L60 so14), .d (L51 p_m.Sides), vi p_m.Inks, .d (L51 p_m.Like)], .data (([] : List S_api_Span).flatMap cel60), .data (([] : List S_api_Span).flatMap cel60), .data (([] : List Int).flatMap cel3)] [PCall Try.prog 30 [] (vb x51)] (ct30 hx51) ?_
              obtain rfl := Option.some.inj h
              refine gw 5 [4] [(4, vb x51)] [mc p_m, .cells [.d (L60 so5), vi p_m.Step, .d (L60 so14), .d (L51 p_m.Sides), vi p_m.Inks, .d (L51 p_m.Like)], .data (([] : List S_api_Span).flatMap cel60), .data (([] : List S_api_Span).flatMap cel60), .data (([] : List Int).flatMap cel3)] ?_
              exact awp_ret gm
end Go.Proofs.Ytpkhbbboedoldaa
