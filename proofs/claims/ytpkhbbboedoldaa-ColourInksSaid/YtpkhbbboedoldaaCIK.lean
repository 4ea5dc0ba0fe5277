/- That functions of the seat compute this. Printed by a program of mine. -/
import Derived.Test.YtpkhbbboedoldaaS
import Derived.Test.YtpkhbbboedoldaaCLG
import Derived.Test.YtpkhbbboedoldaaDIK
namespace Go.Proofs.Ytpkhbbboedoldaa
open Go Go.Sx
set_option maxRecDepth 100000
set_option linter.unusedVariables false
theorem ct50 {fuel : Nat}  {p_m : S_api_ClMap} {p_x : (List Int)} {res : (List Int)} (h : F50 fuel p_m p_x = some res) : PCall Try.prog 50 [(ma p_m), (L65 p_x)] (.d (L3 res)) := by
 refine PCall.of_awp tt_ok (N := 24) Try.func50 rfl (by kernel_rfl) rfl (Nat.le_of_ble_eq_true rfl) rfl ?_
 unfold F50 at h
 refine g0 [1, 2] [] [(1, .d (L65 p_x)), (2, .ref 0 0)] [mc p_m] ?_
 refine g0 [1, 2, 5] [] [(1, .d (L65 p_x)), (2, .ref 0 0), (5, .d dnil)] [mc p_m] ?_
 refine awp_seq (g0 [1, 2, 5, 6] [] [(1, .d (L65 p_x)), (2, .ref 0 0), (5, .d dnil), (6, vi 0)] [mc p_m] ?_)
 refine awp_nil 5 1 (by kernel_rfl) ?_
 refine awp_eq (T' := [(5, .sl 1 1 0 ([] : List Int).length), (1, .d (L65 p_x)), (2, .ref 0 0), (6, vi 0)]) (H' := [mc p_m, .data (([] : List Int).flatMap cel3)]) (by kernel_rfl) (by kernel_rfl) ?_
 refine gw 2 [1, 2, 5, 6] [(1, .d (L65 p_x)), (2, .ref 0 0), (5, .sl 1 1 0 ([] : List Int).length), (6, vi 0)] [mc p_m, .data (([] : List Int).flatMap cel3)] ?_
 obtain ⟨o2, ho2, h⟩ := ob h
 refine awp_cut1 (OutQ (fun (ro2 : (List Int)) => [(4, .d (L3 ro2))]) (fun (ro2 : (List Int)) => []) (fun (so2 : (List Int)) => [(5, .sl 1 1 0 so2.length)]) (fun (so2 : (List Int)) => [mc p_m, .data (so2.flatMap cel3)]) o2) ?_ ?_
 ·clear h
  have h := ho2
  clear ho2
  refine awp_selQ (gw 2 [1, 2, 5, 6] [(1, .d (L65 p_x)), (2, .ref 0 0), (5, .sl 1 1 0 ([] : List Int).length), (6, vi 0)] [mc p_m, .data (([] : List Int).flatMap cel3)] ?_)
  refine awp_block (awp_loop (n := fuel) ?_)
  refine awpN_ind (fun n (c3 : Int × (List Int)) => F50L1 p_m p_x n c3) o2 (fun (c3 : Int × (List Int)) => [(1, .d (L65 p_x)), (2, .ref 0 0), (5, .sl 1 1 0 c3.2.length), (6, vi c3.1)]) (fun (c3 : Int × (List Int)) => [mc p_m, .data (c3.2.flatMap cel3)]) (fun _ => rfl) ?_ fuel (0, ([] : List Int)) h
  clear h
  intro n4 c3 h hrn4
  change F50L1 p_m p_x (n4 + 1) c3 = some o2 at h
  rw [F50L1] at h
  refine awp_seq (g0 [1, 2, 5, 6, 11] [] [(1, .d (L65 p_x)), (2, .ref 0 0), (5, .sl 1 1 0 c3.2.length), (6, vi c3.1), (11, vb (decide (c3.1 ≤ (p_m.Borders.length : Int))))] [mc p_m, .data (c3.2.flatMap cel3)] ?_)
  refine awp_cond (b := (decide (c3.1 ≤ (p_m.Borders.length : Int)))) (by kernel_rfl) (fun hb5 => ?_) (fun hb5 => ?_)
  ·rw [if_pos hb5] at h
   refine awp_skip ?_
   show awp ..
   refine awp_seq (awp_block ?_)
   obtain ⟨x6, hx6, h⟩ := ob h
   obtain ⟨x7, hx7, h⟩ := ob h
   obtain ⟨x8, hx8, h⟩ := ob h
   refine awp_draw (T' := [(1, .d (L65 p_x)), (2, .ref 0 0), (5, .sl 1 1 0 (c3.2 ++ ([(x6.tmod p_m.Inks)] : List Int)).length), (6, vi c3.1)]) (H' := [mc p_m, .data ((c3.2 ++ ([(x6.tmod p_m.Inks)] : List Int)).flatMap cel3)]) (ps := [PCall Try.prog 44 [(L65 p_x), (di c3.1)] (vi x6), (p_m.Inks ≠ 0), AppendOk ((c3.2.flatMap cel3).map .d) c3.2.length ([(x6.tmod p_m.Inks)] : List Int).length (c3.2 ++ ([(x6.tmod p_m.Inks)] : List Int)).length 1 8 (([(x6.tmod p_m.Inks)] : List Int).flatMap cel3) ((c3.2 ++ ([(x6.tmod p_m.Inks)] : List Int)).flatMap cel3)]) tt_ok mixed (ks := [1, 2, 5, 6]) (hs := [.no, .no, .no, .call [(L65 p_x), (di c3.1)] (vi x6), .no, .no, .no, .no, .list (c3.2 ++ ([(x6.tmod p_m.Inks)] : List Int)).length ((c3.2 ++ ([(x6.tmod p_m.Inks)] : List Int)).flatMap cel3)]) (m := 8) (mid := [1, 2, 5, 6, 14, 21, 22]) (by kernel_rfl) (And.intro (ct44 hx6) (And.intro ((need_of hx7 : p_m.Inks ≠ 0)) (appendOk cel3_len (need_of hx8)))) ?_
   show awp ..
   refine x0 [1, 2, 5, 6] [] [(1, .d (L65 p_x)), (2, .ref 0 0), (5, .sl 1 1 0 (c3.2 ++ ([(x6.tmod p_m.Inks)] : List Int)).length), (6, vi (w64 (c3.1 + 1)))] [mc p_m, .data ((c3.2 ++ ([(x6.tmod p_m.Inks)] : List Int)).flatMap cel3)] ?_
   exact gn 2 [1, 2, 5, 6] (hrn4 ((w64 (c3.1 + 1)), (c3.2 ++ ([(x6.tmod p_m.Inks)] : List Int))) h)
  ·rw [if_neg (ntrue hb5)] at h
   refine awp_exit ?_
   obtain rfl := Option.some.inj h
   exact gs [0, 1] [5] OutQ.norm
 ·intro e T H hq
  cases o2 with
  | inl ro2 =>
   obtain ⟨rfl, rfl, rfl⟩ := hq
   rw [outK_inl] at h
   obtain rfl := Option.some.inj h
   exact gm
  | inr so2 =>
   obtain ⟨rfl, rfl, rfl⟩ := hq
   rw [outK_inr] at h
   show awp ..
   refine g0 [4] [] [(4, .sl 1 1 0 so2.length)] [mc p_m, .data (so2.flatMap cel3)] ?_
   obtain rfl := Option.some.inj h
   refine gw 2 [4] [(4, .sl 1 1 0 so2.length)] [mc p_m, .data (so2.flatMap cel3)] ?_
   refine awp_freeze 4 1 (so2.flatMap cel3) (.sl 1 1 0 so2.length) (.d (L3 so2)) _ _ (ps := [(so2.flatMap cel3).length = so2.length * 1]) (by kernel_rfl) (by kernel_rfl) (by kernel_rfl) (flatMap_len cel3 1 cel3_len so2) rfl rfl ?_
   refine gw 2 [4] [(4, .d (L3 so2))] [mc p_m, .data (([] : List Int).flatMap cel3)] ?_
   exact awp_ret gm
end Go.Proofs.Ytpkhbbboedoldaa
