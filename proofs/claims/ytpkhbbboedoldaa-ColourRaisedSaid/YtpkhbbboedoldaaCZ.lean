/- That functions of the seat compute this. Printed by a program of mine. -/
import Derived.Test.YtpkhbbboedoldaaS
import Derived.Test.YtpkhbbboedoldaaCA
import Derived.Test.YtpkhbbboedoldaaCLG
import Derived.Test.YtpkhbbboedoldaaCP
import Derived.Test.YtpkhbbboedoldaaCW
import Derived.Test.YtpkhbbboedoldaaDZ
namespace Go.Proofs.Ytpkhbbboedoldaa
open Go Go.Sx
set_option maxRecDepth 100000
set_option linter.unusedVariables false
theorem ct14 {fuel : Nat}  {p_m : S_api_ClMap} {p_x : (List Int)} {by_ : Int} {res : Bool} (h : F14 fuel p_m p_x by_ = some res) : PCall Try.prog 14 [(ma p_m), (L65 p_x), (.v (.int .u16 by_))] (vb res) := by
 refine PCall.of_awp tt_ok (N := 236) Try.func14 rfl (by kernel_rfl) rfl (Nat.le_of_ble_eq_true rfl) rfl ?_
 unfold F14 at h
 refine g0 [1, 2, 3] [] [(1, .d (L65 p_x)), (2, .d (.v (.int .u16 by_))), (3, .ref 0 0)] [mc p_m] ?_
 refine awp_seq ?_
 obtain ⟨x1, hx1, h⟩ := ob h
 refine gr [1, 2, 3, 35] [.no, .call [(ma p_m)] (vb x1)] [(1, .d (L65 p_x)), (2, .d (.v (.int .u16 by_))), (3, .ref 0 0), (35, vb (!x1))] [mc p_m] [PCall Try.prog 39 [(ma p_m)] (vb x1)] (ct39 hx1) ?_
 refine awp_cond (b := (!x1)) (by kernel_rfl) (fun hb2 => ?_) (fun hb2 => ?_)
 ·rw [if_pos hb2] at h
  obtain ⟨x3, hx3, h⟩ := ob h
  refine gr [6] [.call [] (vb x3)] [(6, vb x3)] [mc p_m] [PCall Try.prog 30 [] (vb x3)] (ct30 hx3) ?_
  obtain rfl := Option.some.inj h
  refine gw 1 [6] [(6, vb x3)] [mc p_m] ?_
  exact awp_ret gm
 ·rw [if_neg (ntrue hb2)] at h
  refine awp_skip ?_
  show awp ..
  refine g0 [1, 3, 7] [] [(1, .d (L65 p_x)), (3, .ref 0 0), (7, vi (IntKind.i64.wrap by_))] [mc p_m] ?_
  refine g0 [1, 3, 7, 8] [] [(1, .d (L65 p_x)), (3, .ref 0 0), (7, vi (IntKind.i64.wrap by_)), (8, .ref 1 0)] [mc p_m, mc p_m] ?_
  refine g0 [1, 3, 7, 8] [] [(1, .d (L65 p_x)), (3, .ref 0 0), (7, vi (IntKind.i64.wrap by_)), (8, .ref 1 0)] [mc p_m, .cells [.d dnil, vi p_m.Step, .d dnil, .d (L51 p_m.Sides), vi p_m.Inks, .d (L51 p_m.Like)]] ?_
  refine awp_seq (g0 [1, 3, 7, 8, 9] [] [(1, .d (L65 p_x)), (3, .ref 0 0), (7, vi (IntKind.i64.wrap by_)), (8, .ref 1 0), (9, vi 0)] [mc p_m, .cells [.d dnil, vi p_m.Step, .d dnil, .d (L51 p_m.Sides), vi p_m.Inks, .d (L51 p_m.Like)]] ?_)
  refine awp_nilC 1 0 2 [.d dnil, vi p_m.Step, .d dnil, .d (L51 p_m.Sides), vi p_m.Inks, .d (L51 p_m.Like)] [mc p_m, .cells [.sl 2 2 0 ([] : List S_api_Span).length, vi p_m.Step, .d dnil, .d (L51 p_m.Sides), vi p_m.Inks, .d (L51 p_m.Like)], .data (([] : List S_api_Span).flatMap cel60)] (by kernel_rfl) (by kernel_rfl) (by kernel_rfl) ?_
  refine gw 3 [1, 3, 7, 8, 9] [(1, .d (L65 p_x)), (3, .ref 0 0), (7, vi (IntKind.i64.wrap by_)), (8, .ref 1 0), (9, vi 0)] [mc p_m, .cells [.sl 2 2 0 ([] : List S_api_Span).length, vi p_m.Step, .d dnil, .d (L51 p_m.Sides), vi p_m.Inks, .d (L51 p_m.Like)], .data (([] : List S_api_Span).flatMap cel60)] ?_
  obtain ⟨o5, ho5, h⟩ := ob h
  refine awp_cut1 (OutQ (fun (ro5 : Bool) => [(6, vb ro5)]) (fun (ro5 : Bool) => []) (fun (so5 : (List S_api_Span)) => [(1, .d (L65 p_x)), (3, .ref 0 0), (7, vi (IntKind.i64.wrap by_)), (8, .ref 1 0)]) (fun (so5 : (List S_api_Span)) => [mc p_m, .cells [.sl 2 2 0 so5.length, vi p_m.Step, .d dnil, .d (L51 p_m.Sides), vi p_m.Inks, .d (L51 p_m.Like)], .data (so5.flatMap cel60)]) o5) ?_ ?_
  ·clear h
   have h := ho5
   clear ho5
   refine awp_selQ (gw 3 [1, 3, 7, 8, 9] [(1, .d (L65 p_x)), (3, .ref 0 0), (7, vi (IntKind.i64.wrap by_)), (8, .ref 1 0), (9, vi 0)] [mc p_m, .cells [.sl 2 2 0 ([] : List S_api_Span).length, vi p_m.Step, .d dnil, .d (L51 p_m.Sides), vi p_m.Inks, .d (L51 p_m.Like)], .data (([] : List S_api_Span).flatMap cel60)] ?_)
   refine awp_block (awp_loop (n := fuel) ?_)
   refine awpN_ind (fun n (c6 : Int × (List S_api_Span)) => F14L1 p_m by_ n c6) o5 (fun (c6 : Int × (List S_api_Span)) => [(1, .d (L65 p_x)), (3, .ref 0 0), (7, vi (IntKind.i64.wrap by_)), (8, .ref 1 0), (9, vi c6.1)]) (fun (c6 : Int × (List S_api_Span)) => [mc p_m, .cells [.sl 2 2 0 c6.2.length, vi p_m.Step, .d dnil, .d (L51 p_m.Sides), vi p_m.Inks, .d (L51 p_m.Like)], .data (c6.2.flatMap cel60)]) (fun _ => rfl) ?_ fuel (0, ([] : List S_api_Span)) h
   clear h
   intro n7 c6 h hrn7
   change F14L1 p_m by_ (n7 + 1) c6 = some o5 at h
   rw [F14L1] at h
   refine awp_seq (g0 [1, 3, 7, 8, 9, 46] [] [(1, .d (L65 p_x)), (3, .ref 0 0), (7, vi (IntKind.i64.wrap by_)), (8, .ref 1 0), (9, vi c6.1), (46, vb (decide (c6.1 < (p_m.Borders.length : Int))))] [mc p_m, .cells [.sl 2 2 0 c6.2.length, vi p_m.Step, .d dnil, .d (L51 p_m.Sides), vi p_m.Inks, .d (L51 p_m.Like)], .data (c6.2.flatMap cel60)] ?_)
   refine awp_cond (b := (decide (c6.1 < (p_m.Borders.length : Int)))) (by kernel_rfl) (fun hb8 => ?_) (fun hb8 => ?_)
   ·rw [if_pos hb8] at h
    refine awp_skip ?_
    show awp ..
    refine awp_seq (awp_block ?_)
    obtain ⟨x9, hx9, h⟩ := ob h
    obtain ⟨x10, hx10, h⟩ := ob h
    obtain ⟨x11, hx11, h⟩ := ob h
    obtain ⟨x12, hx12, h⟩ := ob h
    refine awp_draw (T' := [(1, .d (L65 p_x)), (3, .ref 0 0), (7, vi (IntKind.i64.wrap by_)), (8, .ref 1 0), (9, vi c6.1)]) (H' := [mc p_m, .cells [.sl 2 2 0 (c6.2 ++ ([(⟨x11.Lo, x11.Hi⟩ : S_api_Span)] : List S_api_Span)).length, vi p_m.Step, .d dnil, .d (L51 p_m.Sides), vi p_m.Inks, .d (L51 p_m.Like)], .data ((c6.2 ++ ([(⟨x11.Lo, x11.Hi⟩ : S_api_Span)] : List S_api_Span)).flatMap cel60)]) (ps := [IX60 p_m.Borders c6.1 x9, IX60 p_m.Borders c6.1 x10, PCall Try.prog 47 [(di (w64 (x9.Lo + (IntKind.i64.wrap by_)))), (di (w64 (x10.Hi + (IntKind.i64.wrap by_))))] (.d (.agg [(di x11.Lo), (di x11.Hi)])), AppendOk ((c6.2.flatMap cel60).map .d) c6.2.length ([(⟨x11.Lo, x11.Hi⟩ : S_api_Span)] : List S_api_Span).length (c6.2 ++ ([(⟨x11.Lo, x11.Hi⟩ : S_api_Span)] : List S_api_Span)).length 2 16 (([(⟨x11.Lo, x11.Hi⟩ : S_api_Span)] : List S_api_Span).flatMap cel60) ((c6.2 ++ ([(⟨x11.Lo, x11.Hi⟩ : S_api_Span)] : List S_api_Span)).flatMap cel60)]) tt_ok mixed (ks := [1, 3, 7, 8, 9]) (hs := [.no, .no, .no, .no, .no, .cells (cel60 x9), .no, .no, .no, .no, .no, .no, .no, .cells (cel60 x10), .no, .no, .no, .no, .call [(di (w64 (x9.Lo + (IntKind.i64.wrap by_)))), (di (w64 (x10.Hi + (IntKind.i64.wrap by_))))] (.d (.agg [(di x11.Lo), (di x11.Hi)])), .no, .list (c6.2 ++ ([(⟨x11.Lo, x11.Hi⟩ : S_api_Span)] : List S_api_Span)).length ((c6.2 ++ ([(⟨x11.Lo, x11.Hi⟩ : S_api_Span)] : List S_api_Span)).flatMap cel60)]) (m := 20) (mid := [1, 3, 7, 8, 9, 50, 68, 69, 70]) (by kernel_rfl) (And.intro (idxOk cel60_len hx9) (And.intro (idxOk cel60_len hx10) (And.intro (ct47 hx11) (appendOk cel60_len (need_of hx12))))) ?_
    show awp ..
    refine x0 [1, 3, 7, 8, 9] [] [(1, .d (L65 p_x)), (3, .ref 0 0), (7, vi (IntKind.i64.wrap by_)), (8, .ref 1 0), (9, vi (w64 (c6.1 + 1)))] [mc p_m, .cells [.sl 2 2 0 (c6.2 ++ ([(⟨x11.Lo, x11.Hi⟩ : S_api_Span)] : List S_api_Span)).length, vi p_m.Step, .d dnil, .d (L51 p_m.Sides), vi p_m.Inks, .d (L51 p_m.Like)], .data ((c6.2 ++ ([(⟨x11.Lo, x11.Hi⟩ : S_api_Span)] : List S_api_Span)).flatMap cel60)] ?_
    exact gn 3 [1, 3, 7, 8, 9] (hrn7 ((w64 (c6.1 + 1)), (c6.2 ++ ([(⟨x11.Lo, x11.Hi⟩ : S_api_Span)] : List S_api_Span))) h)
   ·rw [if_neg (ntrue hb8)] at h
    refine awp_exit ?_
    obtain rfl := Option.some.inj h
    exact gs [0, 1, 2] [1, 3, 7, 8] OutQ.norm
  ·intro e T H hq
   cases o5 with
   | inl ro5 =>
    obtain ⟨rfl, rfl, rfl⟩ := hq
    rw [outK_inl] at h
    obtain rfl := Option.some.inj h
    exact gm
   | inr so5 =>
    obtain ⟨rfl, rfl, rfl⟩ := hq
    rw [outK_inr] at h
    show awp ..
    refine awp_seq (g0 [1, 3, 7, 8, 10] [] [(1, .d (L65 p_x)), (3, .ref 0 0), (7, vi (IntKind.i64.wrap by_)), (8, .ref 1 0), (10, vi 0)] [mc p_m, .cells [.sl 2 2 0 so5.length, vi p_m.Step, .d dnil, .d (L51 p_m.Sides), vi p_m.Inks, .d (L51 p_m.Like)], .data (so5.flatMap cel60)] ?_)
    refine awp_nilC 1 2 2 [.sl 2 2 0 so5.length, vi p_m.Step, .d dnil, .d (L51 p_m.Sides), vi p_m.Inks, .d (L51 p_m.Like)] [mc p_m, .cells [.sl 2 2 0 so5.length, vi p_m.Step, .sl 2 3 0 ([] : List S_api_Span).length, .d (L51 p_m.Sides), vi p_m.Inks, .d (L51 p_m.Like)], .data (so5.flatMap cel60), .data (([] : List S_api_Span).flatMap cel60)] (by kernel_rfl) (by kernel_rfl) (by kernel_rfl) ?_
    refine gw 4 [1, 3, 7, 8, 10] [(1, .d (L65 p_x)), (3, .ref 0 0), (7, vi (IntKind.i64.wrap by_)), (8, .ref 1 0), (10, vi 0)] [mc p_m, .cells [.sl 2 2 0 so5.length, vi p_m.Step, .sl 2 3 0 ([] : List S_api_Span).length, .d (L51 p_m.Sides), vi p_m.Inks, .d (L51 p_m.Like)], .data (so5.flatMap cel60), .data (([] : List S_api_Span).flatMap cel60)] ?_
    obtain ⟨o14, ho14, h⟩ := ob h
    refine awp_cut1 (OutQ (fun (ro14 : Bool) => [(6, vb ro14)]) (fun (ro14 : Bool) => []) (fun (so14 : (List S_api_Span)) => [(1, .d (L65 p_x)), (3, .ref 0 0), (7, vi (IntKind.i64.wrap by_)), (8, .ref 1 0)]) (fun (so14 : (List S_api_Span)) => [mc p_m, .cells [.sl 2 2 0 so5.length, vi p_m.Step, .sl 2 3 0 so14.length, .d (L51 p_m.Sides), vi p_m.Inks, .d (L51 p_m.Like)], .data (so5.flatMap cel60), .data (so14.flatMap cel60)]) o14) ?_ ?_
    ·clear h
     have h := ho14
     clear ho14
     refine awp_selQ (gw 4 [1, 3, 7, 8, 10] [(1, .d (L65 p_x)), (3, .ref 0 0), (7, vi (IntKind.i64.wrap by_)), (8, .ref 1 0), (10, vi 0)] [mc p_m, .cells [.sl 2 2 0 so5.length, vi p_m.Step, .sl 2 3 0 ([] : List S_api_Span).length, .d (L51 p_m.Sides), vi p_m.Inks, .d (L51 p_m.Like)], .data (so5.flatMap cel60), .data (([] : List S_api_Span).flatMap cel60)] ?_)
     refine awp_block (awp_loop (n := fuel) ?_)
     refine awpN_ind (fun n (c15 : Int × (List S_api_Span)) => F14L2 p_m by_ n c15) o14 (fun (c15 : Int × (List S_api_Span)) => [(1, .d (L65 p_x)), (3, .ref 0 0), (7, vi (IntKind.i64.wrap by_)), (8, .ref 1 0), (10, vi c15.1)]) (fun (c15 : Int × (List S_api_Span)) => [mc p_m, .cells [.sl 2 2 0 so5.length, vi p_m.Step, .sl 2 3 0 c15.2.length, .d (L51 p_m.Sides), vi p_m.Inks, .d (L51 p_m.Like)], .data (so5.flatMap cel60), .data (c15.2.flatMap cel60)]) (fun _ => rfl) ?_ fuel (0, ([] : List S_api_Span)) h
     clear h
     intro n16 c15 h hrn16
     change F14L2 p_m by_ (n16 + 1) c15 = some o14 at h
     rw [F14L2] at h
     refine awp_seq (g0 [1, 3, 7, 8, 10, 75] [] [(1, .d (L65 p_x)), (3, .ref 0 0), (7, vi (IntKind.i64.wrap by_)), (8, .ref 1 0), (10, vi c15.1), (75, vb (decide (c15.1 < (p_m.Heights.length : Int))))] [mc p_m, .cells [.sl 2 2 0 so5.length, vi p_m.Step, .sl 2 3 0 c15.2.length, .d (L51 p_m.Sides), vi p_m.Inks, .d (L51 p_m.Like)], .data (so5.flatMap cel60), .data (c15.2.flatMap cel60)] ?_)
     refine awp_cond (b := (decide (c15.1 < (p_m.Heights.length : Int)))) (by kernel_rfl) (fun hb17 => ?_) (fun hb17 => ?_)
     ·rw [if_pos hb17] at h
      refine awp_skip ?_
      show awp ..
      refine awp_seq (awp_block ?_)
      obtain ⟨x18, hx18, h⟩ := ob h
      obtain ⟨x19, hx19, h⟩ := ob h
      obtain ⟨x20, hx20, h⟩ := ob h
      obtain ⟨x21, hx21, h⟩ := ob h
      refine awp_draw (T' := [(1, .d (L65 p_x)), (3, .ref 0 0), (7, vi (IntKind.i64.wrap by_)), (8, .ref 1 0), (10, vi c15.1)]) (H' := [mc p_m, .cells [.sl 2 2 0 so5.length, vi p_m.Step, .sl 2 3 0 (c15.2 ++ ([(⟨x20.Lo, x20.Hi⟩ : S_api_Span)] : List S_api_Span)).length, .d (L51 p_m.Sides), vi p_m.Inks, .d (L51 p_m.Like)], .data (so5.flatMap cel60), .data ((c15.2 ++ ([(⟨x20.Lo, x20.Hi⟩ : S_api_Span)] : List S_api_Span)).flatMap cel60)]) (ps := [IX60 p_m.Heights c15.1 x18, IX60 p_m.Heights c15.1 x19, PCall Try.prog 47 [(di (w64 (x18.Lo + (IntKind.i64.wrap by_)))), (di (w64 (x19.Hi + (IntKind.i64.wrap by_))))] (.d (.agg [(di x20.Lo), (di x20.Hi)])), AppendOk ((c15.2.flatMap cel60).map .d) c15.2.length ([(⟨x20.Lo, x20.Hi⟩ : S_api_Span)] : List S_api_Span).length (c15.2 ++ ([(⟨x20.Lo, x20.Hi⟩ : S_api_Span)] : List S_api_Span)).length 2 16 (([(⟨x20.Lo, x20.Hi⟩ : S_api_Span)] : List S_api_Span).flatMap cel60) ((c15.2 ++ ([(⟨x20.Lo, x20.Hi⟩ : S_api_Span)] : List S_api_Span)).flatMap cel60)]) tt_ok mixed (ks := [1, 3, 7, 8, 10]) (hs := [.no, .no, .no, .no, .no, .cells (cel60 x18), .no, .no, .no, .no, .no, .no, .no, .cells (cel60 x19), .no, .no, .no, .no, .call [(di (w64 (x18.Lo + (IntKind.i64.wrap by_)))), (di (w64 (x19.Hi + (IntKind.i64.wrap by_))))] (.d (.agg [(di x20.Lo), (di x20.Hi)])), .no, .list (c15.2 ++ ([(⟨x20.Lo, x20.Hi⟩ : S_api_Span)] : List S_api_Span)).length ((c15.2 ++ ([(⟨x20.Lo, x20.Hi⟩ : S_api_Span)] : List S_api_Span)).flatMap cel60)]) (m := 20) (mid := [1, 3, 7, 8, 10, 79, 97, 98, 99]) (by kernel_rfl) (And.intro (idxOk cel60_len hx18) (And.intro (idxOk cel60_len hx19) (And.intro (ct47 hx20) (appendOk cel60_len (need_of hx21))))) ?_
      show awp ..
      refine x0 [1, 3, 7, 8, 10] [] [(1, .d (L65 p_x)), (3, .ref 0 0), (7, vi (IntKind.i64.wrap by_)), (8, .ref 1 0), (10, vi (w64 (c15.1 + 1)))] [mc p_m, .cells [.sl 2 2 0 so5.length, vi p_m.Step, .sl 2 3 0 (c15.2 ++ ([(⟨x20.Lo, x20.Hi⟩ : S_api_Span)] : List S_api_Span)).length, .d (L51 p_m.Sides), vi p_m.Inks, .d (L51 p_m.Like)], .data (so5.flatMap cel60), .data ((c15.2 ++ ([(⟨x20.Lo, x20.Hi⟩ : S_api_Span)] : List S_api_Span)).flatMap cel60)] ?_
      exact gn 4 [1, 3, 7, 8, 10] (hrn16 ((w64 (c15.1 + 1)), (c15.2 ++ ([(⟨x20.Lo, x20.Hi⟩ : S_api_Span)] : List S_api_Span))) h)
     ·rw [if_neg (ntrue hb17)] at h
      refine awp_exit ?_
      obtain rfl := Option.some.inj h
      exact gs [0, 1, 2, 3] [1, 3, 7, 8] OutQ.norm
    ·intro e T H hq
     cases o14 with
     | inl ro14 =>
      obtain ⟨rfl, rfl, rfl⟩ := hq
      rw [outK_inl] at h
      obtain rfl := Option.some.inj h
      exact gm
     | inr so14 =>
      obtain ⟨rfl, rfl, rfl⟩ := hq
      rw [outK_inr] at h
      show awp ..
      refine awp_seq (awp_freezeC 1 0 2 (so5.flatMap cel60) [.sl 2 2 0 so5.length, vi p_m.Step, .sl 2 3 0 so14.length, .d (L51 p_m.Sides), vi p_m.Inks, .d (L51 p_m.Like)] (.sl 2 2 0 so5.length) (.d (L60 so5)) _ _ (ps := [(so5.flatMap cel60).length = so5.length * 2]) (by kernel_rfl) (by kernel_rfl) (by kernel_rfl) (by kernel_rfl) (flatMap_len cel60 2 cel60_len so5) rfl rfl ?_)
      refine gw 4 [1, 3, 7, 8] [(1, .d (L65 p_x)), (3, .ref 0 0), (7, vi (IntKind.i64.wrap by_)), (8, .ref 1 0)] [mc p_m, .cells [.d (L60 so5), vi p_m.Step, .sl 2 3 0 so14.length, .d (L51 p_m.Sides), vi p_m.Inks, .d (L51 p_m.Like)], .data (([] : List S_api_Span).flatMap cel60), .data (so14.flatMap cel60)] ?_
      refine awp_freezeC 1 2 3 (so14.flatMap cel60) [.d (L60 so5), vi p_m.Step, .sl 2 3 0 so14.length, .d (L51 p_m.Sides), vi p_m.Inks, .d (L51 p_m.Like)] (.sl 2 3 0 so14.length) (.d (L60 so14)) _ _ (ps := [(so14.flatMap cel60).length = so14.length * 2]) (by kernel_rfl) (by kernel_rfl) (by kernel_rfl) (by kernel_rfl) (flatMap_len cel60 2 cel60_len so14) rfl rfl ?_
      refine gw 4 [1, 3, 7, 8] [(1, .d (L65 p_x)), (3, .ref 0 0), (7, vi (IntKind.i64.wrap by_)), (8, .ref 1 0)] [mc p_m, .cells [.d (L60 so5), vi p_m.Step, .d (L60 so14), .d (L51 p_m.Sides), vi p_m.Inks, .d (L51 p_m.Like)], .data (([] : List S_api_Span).flatMap cel60), .data (([] : List S_api_Span).flatMap cel60)] ?_
      obtain ⟨x22, hx22, h⟩ := ob h
      refine gr [1, 3, 7, 8, 102] [.no, .call [(.agg [(L60 so5), (di p_m.Step), (L60 so14), (L51 p_m.Sides), (di p_m.Inks), (L51 p_m.Like)])] (vb x22)] [(1, .d (L65 p_x)), (3, .ref 0 0), (7, vi (IntKind.i64.wrap by_)), (8, .ref 1 0), (102, vb (!x22))] [mc p_m, .cells [.d (L60 so5), vi p_m.Step, .d (L60 so14), .d (L51 p_m.Sides), vi p_m.Inks, .d (L51 p_m.Like)], .data (([] : List S_api_Span).flatMap cel60), .data (([] : List S_api_Span).flatMap cel60)] [PCall Try.prog 39 [(.agg [(L60 so5), (di p_m.Step), (L60 so14), (L51 p_m.Sides), (di p_m.Inks), (L51 p_m.Like)])] (vb x22)] (ct39 hx22) ?_
      refine awp_cond (b := (!x22)) (by kernel_rfl) (fun hb23 => ?_) (fun hb23 => ?_)
      ·rw [if_pos hb23] at h
       obtain ⟨x24, hx24, h⟩ := ob h
       refine gr [6] [.call [] (vb x24)] [(6, vb x24)] [mc p_m, .cells [.d (L60 so5), vi p_m.Step, .d (L60 so14), .d (L51 p_m.Sides), vi p_m.Inks, .d (L51 p_m.Like)], .data (([] : List S_api_Span).flatMap cel60), .data (([] : List S_api_Span).flatMap cel60)] [PCall Try.prog 30 [] (vb x24)] (ct30 hx24) ?_
       obtain rfl := Option.some.inj h
       refine gw 4 [6] [(6, vb x24)] [mc p_m, .cells [.d (L60 so5), vi p_m.Step, .d (L60 so14), .d (L51 p_m.Sides), vi p_m.Inks, .d (L51 p_m.Like)], .data (([] : List S_api_Span).flatMap cel60), .data (([] : List S_api_Span).flatMap cel60)] ?_
       exact awp_ret gm
      ·rw [if_neg (ntrue hb23)] at h
       refine awp_skip ?_
       show awp ..
       obtain ⟨x25, hx25, h⟩ := ob h
       refine gr [3, 7, 8, 11] [.no, .no, .call [(ma p_m), (L65 p_x)] (.d (L3 x25))] [(3, .ref 0 0), (7, vi (IntKind.i64.wrap by_)), (8, .ref 1 0), (11, .d (L3 x25))] [mc p_m, .cells [.d (L60 so5), vi p_m.Step, .d (L60 so14), .d (L51 p_m.Sides), vi p_m.Inks, .d (L51 p_m.Like)], .data (([] : List S_api_Span).flatMap cel60), .data (([] : List S_api_Span).flatMap cel60)] [PCall Try.prog 40 [(ma p_m), (L65 p_x)] (.d (L3 x25))] (ct40 hx25) ?_
       refine g0 [3, 7, 8, 11, 12] [] [(3, .ref 0 0), (7, vi (IntKind.i64.wrap by_)), (8, .ref 1 0), (11, .d (L3 x25)), (12, .d dnil)] [mc p_m, .cells [.d (L60 so5), vi p_m.Step, .d (L60 so14), .d (L51 p_m.Sides), vi p_m.Inks, .d (L51 p_m.Like)], .data (([] : List S_api_Span).flatMap cel60), .data (([] : List S_api_Span).flatMap cel60)] ?_
       refine awp_seq (g0 [3, 7, 8, 11, 12, 13] [] [(3, .ref 0 0), (7, vi (IntKind.i64.wrap by_)), (8, .ref 1 0), (11, .d (L3 x25)), (12, .d dnil), (13, vi 0)] [mc p_m, .cells [.d (L60 so5), vi p_m.Step, .d (L60 so14), .d (L51 p_m.Sides), vi p_m.Inks, .d (L51 p_m.Like)], .data (([] : List S_api_Span).flatMap cel60), .data (([] : List S_api_Span).flatMap cel60)] ?_)
       refine awp_nil 12 1 (by kernel_rfl) ?_
       refine awp_eq (T' := [(12, .sl 1 4 0 ([] : List Int).length), (3, .ref 0 0), (7, vi (IntKind.i64.wrap by_)), (8, .ref 1 0), (11, .d (L3 x25)), (13, vi 0)]) (H' := [mc p_m, .cells [.d (L60 so5), vi p_m.Step, .d (L60 so14), .d (L51 p_m.Sides), vi p_m.Inks, .d (L51 p_m.Like)], .data (([] : List S_api_Span).flatMap cel60), .data (([] : List S_api_Span).flatMap cel60), .data (([] : List Int).flatMap cel3)]) (by kernel_rfl) (by kernel_rfl) ?_
       refine gw 5 [3, 7, 8, 11, 12, 13] [(3, .ref 0 0), (7, vi (IntKind.i64.wrap by_)), (8, .ref 1 0), (11, .d (L3 x25)), (12, .sl 1 4 0 ([] : List Int).length), (13, vi 0)] [mc p_m, .cells [.d (L60 so5), vi p_m.Step, .d (L60 so14), .d (L51 p_m.Sides), vi p_m.Inks, .d (L51 p_m.Like)], .data (([] : List S_api_Span).flatMap cel60), .data (([] : List S_api_Span).flatMap cel60), .data (([] : List Int).flatMap cel3)] ?_
       obtain ⟨o27, ho27, h⟩ := ob h
       refine awp_cut1 (OutQ (fun (ro27 : Bool) => [(6, vb ro27)]) (fun (ro27 : Bool) => []) (fun (so27 : (List Int)) => [(3, .ref 0 0), (7, vi (IntKind.i64.wrap by_)), (8, .ref 1 0), (11, .d (L3 x25)), (12, .sl 1 4 0 so27.length)]) (fun (so27 : (List Int)) => [mc p_m, .cells [.d (L60 so5), vi p_m.Step, .d (L60 so14), .d (L51 p_m.Sides), vi p_m.Inks, .d (L51 p_m.Like)], .data (([] : List S_api_Span).flatMap cel60), .data (([] : List S_api_Span).flatMap cel60), .data (so27.flatMap cel3)]) o27) ?_ ?_
       ·clear h
        have h := ho27
        clear ho27
        refine awp_selQ (gw 5 [3, 7, 8, 11, 12, 13] [(3, .ref 0 0), (7, vi (IntKind.i64.wrap by_)), (8, .ref 1 0), (11, .d (L3 x25)), (12, .sl 1 4 0 ([] : List Int).length), (13, vi 0)] [mc p_m, .cells [.d (L60 so5), vi p_m.Step, .d (L60 so14), .d (L51 p_m.Sides), vi p_m.Inks, .d (L51 p_m.Like)], .data (([] : List S_api_Span).flatMap cel60), .data (([] : List S_api_Span).flatMap cel60), .data (([] : List Int).flatMap cel3)] ?_)
        refine awp_block (awp_loop (n := fuel) ?_)
        refine awpN_ind (fun n (c28 : Int × (List Int)) => F14L3 by_ x25 n c28) o27 (fun (c28 : Int × (List Int)) => [(3, .ref 0 0), (7, vi (IntKind.i64.wrap by_)), (8, .ref 1 0), (11, .d (L3 x25)), (12, .sl 1 4 0 c28.2.length), (13, vi c28.1)]) (fun (c28 : Int × (List Int)) => [mc p_m, .cells [.d (L60 so5), vi p_m.Step, .d (L60 so14), .d (L51 p_m.Sides), vi p_m.Inks, .d (L51 p_m.Like)], .data (([] : List S_api_Span).flatMap cel60), .data (([] : List S_api_Span).flatMap cel60), .data (c28.2.flatMap cel3)]) (fun _ => rfl) ?_ fuel (0, ([] : List Int)) h
        clear h
        intro n29 c28 h hrn29
        change F14L3 by_ x25 (n29 + 1) c28 = some o27 at h
        rw [F14L3] at h
        refine awp_seq (g0 [3, 7, 8, 11, 12, 13, 110] [] [(3, .ref 0 0), (7, vi (IntKind.i64.wrap by_)), (8, .ref 1 0), (11, .d (L3 x25)), (12, .sl 1 4 0 c28.2.length), (13, vi c28.1), (110, vb (decide (c28.1 < (x25.length : Int))))] [mc p_m, .cells [.d (L60 so5), vi p_m.Step, .d (L60 so14), .d (L51 p_m.Sides), vi p_m.Inks, .d (L51 p_m.Like)], .data (([] : List S_api_Span).flatMap cel60), .data (([] : List S_api_Span).flatMap cel60), .data (c28.2.flatMap cel3)] ?_)
        refine awp_cond (b := (decide (c28.1 < (x25.length : Int)))) (by kernel_rfl) (fun hb30 => ?_) (fun hb30 => ?_)
        ·rw [if_pos hb30] at h
         refine awp_skip ?_
         show awp ..
         refine awp_seq (awp_block ?_)
         obtain ⟨x31, hx31, h⟩ := ob h
         obtain ⟨x32, hx32, h⟩ := ob h
         refine xr [3, 7, 8, 11, 12, 13] [.no, .no, .no, .cells (cel3 x31), .no, .no, .no, .no, .list (c28.2 ++ ([(w64 (x31 + (IntKind.i64.wrap by_)))] : List Int)).length ((c28.2 ++ ([(w64 (x31 + (IntKind.i64.wrap by_)))] : List Int)).flatMap cel3)] [(3, .ref 0 0), (7, vi (IntKind.i64.wrap by_)), (8, .ref 1 0), (11, .d (L3 x25)), (12, .sl 1 4 0 (c28.2 ++ ([(w64 (x31 + (IntKind.i64.wrap by_)))] : List Int)).length), (13, vi c28.1)] [mc p_m, .cells [.d (L60 so5), vi p_m.Step, .d (L60 so14), .d (L51 p_m.Sides), vi p_m.Inks, .d (L51 p_m.Like)], .data (([] : List S_api_Span).flatMap cel60), .data (([] : List S_api_Span).flatMap cel60), .data ((c28.2 ++ ([(w64 (x31 + (IntKind.i64.wrap by_)))] : List Int)).flatMap cel3)] [IX3 x25 c28.1 x31, AppendOk ((c28.2.flatMap cel3).map .d) c28.2.length ([(w64 (x31 + (IntKind.i64.wrap by_)))] : List Int).length (c28.2 ++ ([(w64 (x31 + (IntKind.i64.wrap by_)))] : List Int)).length 1 8 (([(w64 (x31 + (IntKind.i64.wrap by_)))] : List Int).flatMap cel3) ((c28.2 ++ ([(w64 (x31 + (IntKind.i64.wrap by_)))] : List Int)).flatMap cel3)] (And.intro (idxOk cel3_len hx31) (appendOk cel3_len (need_of hx32))) ?_
         show awp ..
         refine x0 [3, 7, 8, 11, 12, 13] [] [(3, .ref 0 0), (7, vi (IntKind.i64.wrap by_)), (8, .ref 1 0), (11, .d (L3 x25)), (12, .sl 1 4 0 (c28.2 ++ ([(w64 (x31 + (IntKind.i64.wrap by_)))] : List Int)).length), (13, vi (w64 (c28.1 + 1)))] [mc p_m, .cells [.d (L60 so5), vi p_m.Step, .d (L60 so14), .d (L51 p_m.Sides), vi p_m.Inks, .d (L51 p_m.Like)], .data (([] : List S_api_Span).flatMap cel60), .data (([] : List S_api_Span).flatMap cel60), .data ((c28.2 ++ ([(w64 (x31 + (IntKind.i64.wrap by_)))] : List Int)).flatMap cel3)] ?_
         exact gn 5 [3, 7, 8, 11, 12, 13] (hrn29 ((w64 (c28.1 + 1)), (c28.2 ++ ([(w64 (x31 + (IntKind.i64.wrap by_)))] : List Int))) h)
        ·rw [if_neg (ntrue hb30)] at h
         refine awp_exit ?_
         obtain rfl := Option.some.inj h
         exact gs [0, 1, 2, 3, 4] [3, 7, 8, 11, 12] OutQ.norm
       ·intro e T H hq
        cases o27 with
        | inl ro27 =>
         obtain ⟨rfl, rfl, rfl⟩ := hq
         rw [outK_inl] at h
         obtain rfl := Option.some.inj h
         exact gm
        | inr so27 =>
         obtain ⟨rfl, rfl, rfl⟩ := hq
         rw [outK_inr] at h
         show awp ..
         obtain ⟨x33, hx33, h⟩ := ob h
         refine gr [3, 7, 8, 11, 12, 14, 15] [.no, .no, .call [(ma p_m), (L3 x25)] (.tup [.d (L60 x33.1), vi x33.2])] [(3, .ref 0 0), (7, vi (IntKind.i64.wrap by_)), (8, .ref 1 0), (11, .d (L3 x25)), (12, .sl 1 4 0 so27.length), (14, .d (L60 x33.1)), (15, vi x33.2)] [mc p_m, .cells [.d (L60 so5), vi p_m.Step, .d (L60 so14), .d (L51 p_m.Sides), vi p_m.Inks, .d (L51 p_m.Like)], .data (([] : List S_api_Span).flatMap cel60), .data (([] : List S_api_Span).flatMap cel60), .data (so27.flatMap cel3)] [PCall Try.prog 21 [(ma p_m), (L3 x25)] (.tup [.d (L60 x33.1), vi x33.2])] (ct21 hx33) ?_
         refine awp_freeze 12 4 (so27.flatMap cel3) (.sl 1 4 0 so27.length) (.d (L3 so27)) _ _ (ps := [(so27.flatMap cel3).length = so27.length * 1]) (by kernel_rfl) (by kernel_rfl) (by kernel_rfl) (flatMap_len cel3 1 cel3_len so27) rfl rfl ?_
         refine gw 5 [3, 7, 8, 11, 12, 14, 15] [(3, .ref 0 0), (7, vi (IntKind.i64.wrap by_)), (8, .ref 1 0), (11, .d (L3 x25)), (12, .d (L3 so27)), (14, .d (L60 x33.1)), (15, vi x33.2)] [mc p_m, .cells [.d (L60 so5), vi p_m.Step, .d (L60 so14), .d (L51 p_m.Sides), vi p_m.Inks, .d (L51 p_m.Like)], .data (([] : List S_api_Span).flatMap cel60), .data (([] : List S_api_Span).flatMap cel60), .data (([] : List Int).flatMap cel3)] ?_
         obtain ⟨x34, hx34, h⟩ := ob h
         refine gr [3, 7, 8, 11, 12, 14, 15, 16, 17] [.no, .no, .call [(.agg [(L60 so5), (di p_m.Step), (L60 so14), (L51 p_m.Sides), (di p_m.Inks), (L51 p_m.Like)]), (L3 so27)] (.tup [.d (L60 x34.1), vi x34.2])] [(3, .ref 0 0), (7, vi (IntKind.i64.wrap by_)), (8, .ref 1 0), (11, .d (L3 x25)), (12, .d (L3 so27)), (14, .d (L60 x33.1)), (15, vi x33.2), (16, .d (L60 x34.1)), (17, vi x34.2)] [mc p_m, .cells [.d (L60 so5), vi p_m.Step, .d (L60 so14), .d (L51 p_m.Sides), vi p_m.Inks, .d (L51 p_m.Like)], .data (([] : List S_api_Span).flatMap cel60), .data (([] : List S_api_Span).flatMap cel60), .data (([] : List Int).flatMap cel3)] [PCall Try.prog 21 [(.agg [(L60 so5), (di p_m.Step), (L60 so14), (L51 p_m.Sides), (di p_m.Inks), (L51 p_m.Like)]), (L3 so27)] (.tup [.d (L60 x34.1), vi x34.2])] (ct21 hx34) ?_
         obtain ⟨x35, hx35, h⟩ := ob h
         refine gr [3, 7, 8, 11, 12, 14, 15, 16, 17, 18, 19] [.no, .no, .call [(ma p_m), (L3 x25)] (.tup [.d (L51 x35.1), vi x35.2])] [(3, .ref 0 0), (7, vi (IntKind.i64.wrap by_)), (8, .ref 1 0), (11, .d (L3 x25)), (12, .d (L3 so27)), (14, .d (L60 x33.1)), (15, vi x33.2), (16, .d (L60 x34.1)), (17, vi x34.2), (18, .d (L51 x35.1)), (19, vi x35.2)] [mc p_m, .cells [.d (L60 so5), vi p_m.Step, .d (L60 so14), .d (L51 p_m.Sides), vi p_m.Inks, .d (L51 p_m.Like)], .data (([] : List S_api_Span).flatMap cel60), .data (([] : List S_api_Span).flatMap cel60), .data (([] : List Int).flatMap cel3)] [PCall Try.prog 27 [(ma p_m), (L3 x25)] (.tup [.d (L51 x35.1), vi x35.2])] (ct27 hx35) ?_
         obtain ⟨x36, hx36, h⟩ := ob h
         refine gr [3, 7, 8, 11, 12, 14, 15, 16, 17, 18, 19, 20, 21] [.no, .no, .call [(.agg [(L60 so5), (di p_m.Step), (L60 so14), (L51 p_m.Sides), (di p_m.Inks), (L51 p_m.Like)]), (L3 so27)] (.tup [.d (L51 x36.1), vi x36.2])] [(3, .ref 0 0), (7, vi (IntKind.i64.wrap by_)), (8, .ref 1 0), (11, .d (L3 x25)), (12, .d (L3 so27)), (14, .d (L60 x33.1)), (15, vi x33.2), (16, .d (L60 x34.1)), (17, vi x34.2), (18, .d (L51 x35.1)), (19, vi x35.2), (20, .d (L51 x36.1)), (21, vi x36.2)] [mc p_m, .cells [.d (L60 so5), vi p_m.Step, .d (L60 so14), .d (L51 p_m.Sides), vi p_m.Inks, .d (L51 p_m.Like)], .data (([] : List S_api_Span).flatMap cel60), .data (([] : List S_api_Span).flatMap cel60), .data (([] : List Int).flatMap cel3)] [PCall Try.prog 27 [(.agg [(L60 so5), (di p_m.Step), (L60 so14), (L51 p_m.Sides), (di p_m.Inks), (L51 p_m.Like)]), (L3 so27)] (.tup [.d (L51 x36.1), vi x36.2])] (ct27 hx36) ?_
         obtain ⟨x37, hx37, h⟩ := ob h
         refine gr [3, 7, 8, 12, 14, 15, 16, 17, 18, 19, 20, 21, 22, 24] [.no, .no, .call [(ma p_m), (L3 x25)] (.tup [.d (L3 x37.1), vi x37.2.1, vi x37.2.2])] [(3, .ref 0 0), (7, vi (IntKind.i64.wrap by_)), (8, .ref 1 0), (12, .d (L3 so27)), (14, .d (L60 x33.1)), (15, vi x33.2), (16, .d (L60 x34.1)), (17, vi x34.2), (18, .d (L51 x35.1)), (19, vi x35.2), (20, .d (L51 x36.1)), (21, vi x36.2), (22, .d (L3 x37.1)), (24, vi x37.2.2)] [mc p_m, .cells [.d (L60 so5), vi p_m.Step, .d (L60 so14), .d (L51 p_m.Sides), vi p_m.Inks, .d (L51 p_m.Like)], .data (([] : List S_api_Span).flatMap cel60), .data (([] : List S_api_Span).flatMap cel60), .data (([] : List Int).flatMap cel3)] [PCall Try.prog 31 [(ma p_m), (L3 x25)] (.tup [.d (L3 x37.1), vi x37.2.1, vi x37.2.2])] (ct31 hx37) ?_
         obtain ⟨x38, hx38, h⟩ := ob h
         refine gr [3, 7, 8, 14, 15, 16, 17, 18, 19, 20, 21, 22, 24, 25, 27] [.no, .no, .call [(.agg [(L60 so5), (di p_m.Step), (L60 so14), (L51 p_m.Sides), (di p_m.Inks), (L51 p_m.Like)]), (L3 so27)] (.tup [.d (L3 x38.1), vi x38.2.1, vi x38.2.2])] [(3, .ref 0 0), (7, vi (IntKind.i64.wrap by_)), (8, .ref 1 0), (14, .d (L60 x33.1)), (15, vi x33.2), (16, .d (L60 x34.1)), (17, vi x34.2), (18, .d (L51 x35.1)), (19, vi x35.2), (20, .d (L51 x36.1)), (21, vi x36.2), (22, .d (L3 x37.1)), (24, vi x37.2.2), (25, .d (L3 x38.1)), (27, vi x38.2.2)] [mc p_m, .cells [.d (L60 so5), vi p_m.Step, .d (L60 so14), .d (L51 p_m.Sides), vi p_m.Inks, .d (L51 p_m.Like)], .data (([] : List S_api_Span).flatMap cel60), .data (([] : List S_api_Span).flatMap cel60), .data (([] : List Int).flatMap cel3)] [PCall Try.prog 31 [(.agg [(L60 so5), (di p_m.Step), (L60 so14), (L51 p_m.Sides), (di p_m.Inks), (L51 p_m.Like)]), (L3 so27)] (.tup [.d (L3 x38.1), vi x38.2.1, vi x38.2.2])] (ct31 hx38) ?_
         refine awp_seq ?_
         obtain ⟨x39, hx39, h⟩ := ob h
         obtain ⟨x40, hx40, h⟩ := ob h
         obtain ⟨x41, hx41, h⟩ := ob h
         refine gr [3, 7, 8, 190] [.no, .no, .call [(L60 x33.1), (L60 x34.1)] (vb x39), .no, .no, .no, .no, .no, .no, .no, .no, .no, .call [(L51 x35.1), (L51 x36.1)] (vb x40), .no, .no, .no, .no, .no, .no, .no, .no, .no, .no, .call [(L3 x37.1), (L3 x38.1)] (vb x41)] [(3, .ref 0 0), (7, vi (IntKind.i64.wrap by_)), (8, .ref 1 0), (190, vb (cond (cond (cond (cond (cond (!x39) true (x33.2 != x34.2)) true (!x40)) true (x35.2 != x36.2)) true (!x41)) true (x37.2.2 != x38.2.2)))] [mc p_m, .cells [.d (L60 so5), vi p_m.Step, .d (L60 so14), .d (L51 p_m.Sides), vi p_m.Inks, .d (L51 p_m.Like)], .data (([] : List S_api_Span).flatMap cel60), .data (([] : List S_api_Span).flatMap cel60), .data (([] : List Int).flatMap cel3)] [PCall Try.prog 23 [(L60 x33.1), (L60 x34.1)] (vb x39), ((!(!x39)) = true → (!(!x39)) = true), ((!(!x39)) = true → (!(!x39)) = true), ((!x39) = false → (!(!x39)) = true), ((!(cond (!x39) true (x33.2 != x34.2))) = true → (!(cond (!x39) true (x33.2 != x34.2))) = true), ((!(cond (!x39) true (x33.2 != x34.2))) = true → (!(cond (!x39) true (x33.2 != x34.2))) = true), ((!(cond (!x39) true (x33.2 != x34.2))) = true → PCall Try.prog 29 [(L51 x35.1), (L51 x36.1)] (vb x40)), ((!(cond (!x39) true (x33.2 != x34.2))) = true → (!(cond (!x39) true (x33.2 != x34.2))) = true), ((cond (!x39) true (x33.2 != x34.2)) = false → (!(cond (!x39) true (x33.2 != x34.2))) = true), ((!(cond (cond (!x39) true (x33.2 != x34.2)) true (!x40))) = true → (!(cond (cond (!x39) true (x33.2 != x34.2)) true (!x40))) = true), ((!(cond (cond (!x39) true (x33.2 != x34.2)) true (!x40))) = true → (!(cond (cond (!x39) true (x33.2 != x34.2)) true (!x40))) = true), ((cond (cond (!x39) true (x33.2 != x34.2)) true (!x40)) = false → (!(cond (cond (!x39) true (x33.2 != x34.2)) true (!x40))) = true), ((!(cond (cond (cond (!x39) true (x33.2 != x34.2)) true (!x40)) true (x35.2 != x36.2))) = true → (!(cond (cond (cond (!x39) true (x33.2 != x34.2)) true (!x40)) true (x35.2 != x36.2))) = true), ((!(cond (cond (cond (!x39) true (x33.2 != x34.2)) true (!x40)) true (x35.2 != x36.2))) = true → (!(cond (cond (cond (!x39) true (x33.2 != x34.2)) true (!x40)) true (x35.2 != x36.2))) = true), ((!(cond (cond (cond (!x39) true (x33.2 != x34.2)) true (!x40)) true (x35.2 != x36.2))) = true → PCall Try.prog 26 [(L3 x37.1), (L3 x38.1)] (vb x41)), ((!(cond (cond (cond (!x39) true (x33.2 != x34.2)) true (!x40)) true (x35.2 != x36.2))) = true → (!(cond (cond (cond (!x39) true (x33.2 != x34.2)) true (!x40)) true (x35.2 != x36.2))) = true), ((cond (cond (cond (!x39) true (x33.2 != x34.2)) true (!x40)) true (x35.2 != x36.2)) = false → (!(cond (cond (cond (!x39) true (x33.2 != x34.2)) true (!x40)) true (x35.2 != x36.2))) = true), ((!(cond (cond (cond (cond (!x39) true (x33.2 != x34.2)) true (!x40)) true (x35.2 != x36.2)) true (!x41))) = true → (!(cond (cond (cond (cond (!x39) true (x33.2 != x34.2)) true (!x40)) true (x35.2 != x36.2)) true (!x41))) = true), ((!(cond (cond (cond (cond (!x39) true (x33.2 != x34.2)) true (!x40)) true (x35.2 != x36.2)) true (!x41))) = true → (!(cond (cond (cond (cond (!x39) true (x33.2 != x34.2)) true (!x40)) true (x35.2 != x36.2)) true (!x41))) = true), ((cond (cond (cond (cond (!x39) true (x33.2 != x34.2)) true (!x40)) true (x35.2 != x36.2)) true (!x41)) = false → (!(cond (cond (cond (cond (!x39) true (x33.2 != x34.2)) true (!x40)) true (x35.2 != x36.2)) true (!x41))) = true)] (And.intro (ct23 hx39) (And.intro (id) (And.intro (id) (And.intro (not_of) (And.intro (id) (And.intro (id) (And.intro ((fun hg => ct29 (optG_of hx40 hg))) (And.intro (id) (And.intro (not_of) (And.intro (id) (And.intro (id) (And.intro (not_of) (And.intro (id) (And.intro (id) (And.intro ((fun hg => ct26 (optG_of hx41 hg))) (And.intro (id) (And.intro (not_of) (And.intro (id) (And.intro (id) (not_of)))))))))))))))))))) ?_
         refine awp_cond (b := (cond (cond (cond (cond (cond (!x39) true (x33.2 != x34.2)) true (!x40)) true (x35.2 != x36.2)) true (!x41)) true (x37.2.2 != x38.2.2))) (by kernel_rfl) (fun hb42 => ?_) (fun hb42 => ?_)
         ·rw [if_pos hb42] at h
          refine g0 [6] [] [(6, vb false)] [mc p_m, .cells [.d (L60 so5), vi p_m.Step, .d (L60 so14), .d (L51 p_m.Sides), vi p_m.Inks, .d (L51 p_m.Like)], .data (([] : List S_api_Span).flatMap cel60), .data (([] : List S_api_Span).flatMap cel60), .data (([] : List Int).flatMap cel3)] ?_
          obtain rfl := Option.some.inj h
          refine gw 5 [6] [(6, vb false)] [mc p_m, .cells [.d (L60 so5), vi p_m.Step, .d (L60 so14), .d (L51 p_m.Sides), vi p_m.Inks, .d (L51 p_m.Like)], .data (([] : List S_api_Span).flatMap cel60), .data (([] : List S_api_Span).flatMap cel60), .data (([] : List Int).flatMap cel3)] ?_
          exact awp_ret gm
         ·rw [if_neg (ntrue hb42)] at h
          refine awp_skip ?_
          show awp ..
          obtain ⟨x43, hx43, h⟩ := ob h
          refine gr [7, 8, 15, 28, 29] [.no, .call [(ma p_m)] (.tup [.d (L3 x43.1), vi x43.2.1, vi x43.2.2])] [(7, vi (IntKind.i64.wrap by_)), (8, .ref 1 0), (15, vi x43.2.2), (28, .d (L3 x43.1)), (29, vi x43.2.1)] [mc p_m, .cells [.d (L60 so5), vi p_m.Step, .d (L60 so14), .d (L51 p_m.Sides), vi p_m.Inks, .d (L51 p_m.Like)], .data (([] : List S_api_Span).flatMap cel60), .data (([] : List S_api_Span).flatMap cel60), .data (([] : List Int).flatMap cel3)] [PCall Try.prog 35 [(ma p_m)] (.tup [.d (L3 x43.1), vi x43.2.1, vi x43.2.2])] (ct35 hx43) ?_
          obtain ⟨x44, hx44, h⟩ := ob h
          refine gr [7, 15, 17, 28, 29, 30, 31] [.no, .call [(.agg [(L60 so5), (di p_m.Step), (L60 so14), (L51 p_m.Sides), (di p_m.Inks), (L51 p_m.Like)])] (.tup [.d (L3 x44.1), vi x44.2.1, vi x44.2.2])] [(7, vi (IntKind.i64.wrap by_)), (15, vi x43.2.2), (17, vi x44.2.2), (28, .d (L3 x43.1)), (29, vi x43.2.1), (30, .d (L3 x44.1)), (31, vi x44.2.1)] [mc p_m, .cells [.d (L60 so5), vi p_m.Step, .d (L60 so14), .d (L51 p_m.Sides), vi p_m.Inks, .d (L51 p_m.Like)], .data (([] : List S_api_Span).flatMap cel60), .data (([] : List S_api_Span).flatMap cel60), .data (([] : List Int).flatMap cel3)] [PCall Try.prog 35 [(.agg [(L60 so5), (di p_m.Step), (L60 so14), (L51 p_m.Sides), (di p_m.Inks), (L51 p_m.Like)])] (.tup [.d (L3 x44.1), vi x44.2.1, vi x44.2.2])] (ct35 hx44) ?_
          refine awp_seq (gr [7, 28, 30, 217] [] [(7, vi (IntKind.i64.wrap by_)), (28, .d (L3 x43.1)), (30, .d (L3 x44.1)), (217, vb (cond (cond (x43.2.1 != x44.2.1) true (x43.2.2 != x44.2.2)) true ((x43.1.length : Int) != (x44.1.length : Int))))] [mc p_m, .cells [.d (L60 so5), vi p_m.Step, .d (L60 so14), .d (L51 p_m.Sides), vi p_m.Inks, .d (L51 p_m.Like)], .data (([] : List S_api_Span).flatMap cel60), .data (([] : List S_api_Span).flatMap cel60), .data (([] : List Int).flatMap cel3)] [((!(x43.2.1 != x44.2.1)) = true → (!(x43.2.1 != x44.2.1)) = true), ((!(x43.2.1 != x44.2.1)) = true → (!(x43.2.1 != x44.2.1)) = true), ((x43.2.1 != x44.2.1) = false → (!(x43.2.1 != x44.2.1)) = true), ((!(cond (x43.2.1 != x44.2.1) true (x43.2.2 != x44.2.2))) = true → (!(cond (x43.2.1 != x44.2.1) true (x43.2.2 != x44.2.2))) = true), ((!(cond (x43.2.1 != x44.2.1) true (x43.2.2 != x44.2.2))) = true → (!(cond (x43.2.1 != x44.2.1) true (x43.2.2 != x44.2.2))) = true), ((!(cond (x43.2.1 != x44.2.1) true (x43.2.2 != x44.2.2))) = true → (!(cond (x43.2.1 != x44.2.1) true (x43.2.2 != x44.2.2))) = true), ((!(cond (x43.2.1 != x44.2.1) true (x43.2.2 != x44.2.2))) = true → (!(cond (x43.2.1 != x44.2.1) true (x43.2.2 != x44.2.2))) = true), ((cond (x43.2.1 != x44.2.1) true (x43.2.2 != x44.2.2)) = false → (!(cond (x43.2.1 != x44.2.1) true (x43.2.2 != x44.2.2))) = true)] (And.intro (id) (And.intro (id) (And.intro (not_of) (And.intro (id) (And.intro (id) (And.intro (id) (And.intro (id) (not_of)))))))) ?_)
          refine awp_cond (b := (cond (cond (x43.2.1 != x44.2.1) true (x43.2.2 != x44.2.2)) true ((x43.1.length : Int) != (x44.1.length : Int)))) (by kernel_rfl) (fun hb45 => ?_) (fun hb45 => ?_)
          ·rw [if_pos hb45] at h
           refine g0 [6] [] [(6, vb false)] [mc p_m, .cells [.d (L60 so5), vi p_m.Step, .d (L60 so14), .d (L51 p_m.Sides), vi p_m.Inks, .d (L51 p_m.Like)], .data (([] : List S_api_Span).flatMap cel60), .data (([] : List S_api_Span).flatMap cel60), .data (([] : List Int).flatMap cel3)] ?_
           obtain rfl := Option.some.inj h
           refine gw 5 [6] [(6, vb false)] [mc p_m, .cells [.d (L60 so5), vi p_m.Step, .d (L60 so14), .d (L51 p_m.Sides), vi p_m.Inks, .d (L51 p_m.Like)], .data (([] : List S_api_Span).flatMap cel60), .data (([] : List S_api_Span).flatMap cel60), .data (([] : List Int).flatMap cel3)] ?_
           exact awp_ret gm
          ·rw [if_neg (ntrue hb45)] at h
           refine awp_skip ?_
           show awp ..
           refine awp_seq (g0 [7, 28, 30, 32] [] [(7, vi (IntKind.i64.wrap by_)), (28, .d (L3 x43.1)), (30, .d (L3 x44.1)), (32, vi 0)] [mc p_m, .cells [.d (L60 so5), vi p_m.Step, .d (L60 so14), .d (L51 p_m.Sides), vi p_m.Inks, .d (L51 p_m.Like)], .data (([] : List S_api_Span).flatMap cel60), .data (([] : List S_api_Span).flatMap cel60), .data (([] : List Int).flatMap cel3)] ?_)
           obtain ⟨o46, ho46, h⟩ := ob h
           refine awp_cut1 (OutQ (fun (ro46 : Bool) => [(6, vb ro46)]) (fun (ro46 : Bool) => []) (fun (so46 : Unit) => []) (fun (so46 : Unit) => [mc p_m, .cells [.d (L60 so5), vi p_m.Step, .d (L60 so14), .d (L51 p_m.Sides), vi p_m.Inks, .d (L51 p_m.Like)], .data (([] : List S_api_Span).flatMap cel60), .data (([] : List S_api_Span).flatMap cel60), .data (([] : List Int).flatMap cel3)]) o46) ?_ ?_
           ·clear h
            have h := ho46
            clear ho46
            refine awp_selQ (gw 5 [7, 28, 30, 32] [(7, vi (IntKind.i64.wrap by_)), (28, .d (L3 x43.1)), (30, .d (L3 x44.1)), (32, vi 0)] [mc p_m, .cells [.d (L60 so5), vi p_m.Step, .d (L60 so14), .d (L51 p_m.Sides), vi p_m.Inks, .d (L51 p_m.Like)], .data (([] : List S_api_Span).flatMap cel60), .data (([] : List S_api_Span).flatMap cel60), .data (([] : List Int).flatMap cel3)] ?_)
            refine awp_block (awp_loop (n := fuel) ?_)
            refine awpN_ind (fun n (c47 : Int) => F14L4 by_ x43 x44 n c47) o46 (fun (c47 : Int) => [(7, vi (IntKind.i64.wrap by_)), (28, .d (L3 x43.1)), (30, .d (L3 x44.1)), (32, vi c47)]) (fun (c47 : Int) => [mc p_m, .cells [.d (L60 so5), vi p_m.Step, .d (L60 so14), .d (L51 p_m.Sides), vi p_m.Inks, .d (L51 p_m.Like)], .data (([] : List S_api_Span).flatMap cel60), .data (([] : List S_api_Span).flatMap cel60), .data (([] : List Int).flatMap cel3)]) (fun _ => rfl) ?_ fuel 0 h
            clear h
            intro n48 c47 h hrn48
            change F14L4 by_ x43 x44 (n48 + 1) c47 = some o46 at h
            rw [F14L4] at h
            refine awp_seq (g0 [7, 28, 30, 32, 221] [] [(7, vi (IntKind.i64.wrap by_)), (28, .d (L3 x43.1)), (30, .d (L3 x44.1)), (32, vi c47), (221, vb (decide (c47 < (x43.1.length : Int))))] [mc p_m, .cells [.d (L60 so5), vi p_m.Step, .d (L60 so14), .d (L51 p_m.Sides), vi p_m.Inks, .d (L51 p_m.Like)], .data (([] : List S_api_Span).flatMap cel60), .data (([] : List S_api_Span).flatMap cel60), .data (([] : List Int).flatMap cel3)] ?_)
            refine awp_cond (b := (decide (c47 < (x43.1.length : Int)))) (by kernel_rfl) (fun hb49 => ?_) (fun hb49 => ?_)
            ·rw [if_pos hb49] at h
             refine awp_skip ?_
             show awp ..
             refine awp_seq (awp_block ?_)
             obtain ⟨x50, hx50, h⟩ := ob h
             obtain ⟨x51, hx51, h⟩ := ob h
             refine awp_sdraw tt_ok mixed (ks := [7, 28, 30, 32, 234]) (hs := [.no, .no, .cells (cel3 x50), .no, .no, .no, .cells (cel3 x51)]) 10 [7, 28, 30, 32, 227, 233, 234] [(7, vi (IntKind.i64.wrap by_)), (28, .d (L3 x43.1)), (30, .d (L3 x44.1)), (32, vi c47), (234, vb (x50 != (w64 (x51 + (IntKind.i64.wrap by_)))))] [mc p_m, .cells [.d (L60 so5), vi p_m.Step, .d (L60 so14), .d (L51 p_m.Sides), vi p_m.Inks, .d (L51 p_m.Like)], .data (([] : List S_api_Span).flatMap cel60), .data (([] : List S_api_Span).flatMap cel60), .data (([] : List Int).flatMap cel3)] [IX3 x44.1 c47 x50, IX3 x43.1 c47 x51] (by kernel_rfl) (And.intro (idxOk cel3_len hx50) (idxOk cel3_len hx51)) ?_
             refine awp_cond (b := (x50 != (w64 (x51 + (IntKind.i64.wrap by_))))) (by kernel_rfl) (fun hb52 => ?_) (fun hb52 => ?_)
             ·rw [if_pos hb52] at h
              refine g0 [6] [] [(6, vb false)] [mc p_m, .cells [.d (L60 so5), vi p_m.Step, .d (L60 so14), .d (L51 p_m.Sides), vi p_m.Inks, .d (L51 p_m.Like)], .data (([] : List S_api_Span).flatMap cel60), .data (([] : List S_api_Span).flatMap cel60), .data (([] : List Int).flatMap cel3)] ?_
              obtain rfl := Option.some.inj h
              refine gw 5 [6] [(6, vb false)] [mc p_m, .cells [.d (L60 so5), vi p_m.Step, .d (L60 so14), .d (L51 p_m.Sides), vi p_m.Inks, .d (L51 p_m.Like)], .data (([] : List S_api_Span).flatMap cel60), .data (([] : List S_api_Span).flatMap cel60), .data (([] : List Int).flatMap cel3)] ?_
              exact awp_ret (gs [] [6] OutQ.ret)
             ·rw [if_neg (ntrue hb52)] at h
              refine awp_skip ?_
              show awp ..
              refine x0 [7, 28, 30, 32] [] [(7, vi (IntKind.i64.wrap by_)), (28, .d (L3 x43.1)), (30, .d (L3 x44.1)), (32, vi (w64 (c47 + 1)))] [mc p_m, .cells [.d (L60 so5), vi p_m.Step, .d (L60 so14), .d (L51 p_m.Sides), vi p_m.Inks, .d (L51 p_m.Like)], .data (([] : List S_api_Span).flatMap cel60), .data (([] : List S_api_Span).flatMap cel60), .data (([] : List Int).flatMap cel3)] ?_
              exact gn 5 [7, 28, 30, 32] (hrn48 (w64 (c47 + 1)) h)
            ·rw [if_neg (ntrue hb49)] at h
             refine awp_exit ?_
             obtain rfl := Option.some.inj h
             exact gs [0, 1, 2, 3, 4] [] OutQ.norm
           ·intro e T H hq
            cases o46 with
            | inl ro46 =>
             obtain ⟨rfl, rfl, rfl⟩ := hq
             rw [outK_inl] at h
             obtain rfl := Option.some.inj h
             exact gm
            | inr so46 =>
             obtain ⟨rfl, rfl, rfl⟩ := hq
             rw [outK_inr] at h
             show awp ..
             obtain ⟨x53, hx53, h⟩ := ob h
             refine gr [6] [.call [] (vb x53)] [(6, vb x53)] [mc p_m, .cells [.d (L60 so5), vi p_m.Step, .d (L60 so14), .d (L51 p_m.Sides), vi p_m.Inks, .d (L51 p_m.Like)], .data (([] : List S_api_Span).flatMap cel60), .data (([] : List S_api_Span).flatMap cel60), .data (([] : List Int).flatMap cel3)] [PCall Try.prog 30 [] (vb x53)] (ct30 hx53) ?_
             obtain rfl := Option.some.inj h
             refine gw 5 [6] [(6, vb x53)] [mc p_m, .cells [.d (L60 so5), vi p_m.Step, .d (L60 so14), .d (L51 p_m.Sides), vi p_m.Inks, .d (L51 p_m.Like)], .data (([] : List S_api_Span).flatMap cel60), .data (([] : List S_api_Span).flatMap cel60), .data (([] : List Int).flatMap cel3)] ?_
             exact awp_ret gm
end Go.Proofs.Ytpkhbbboedoldaa
