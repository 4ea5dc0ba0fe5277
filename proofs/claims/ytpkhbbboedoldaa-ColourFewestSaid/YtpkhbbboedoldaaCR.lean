/- That functions of the seat compute this. Printed by a program of mine. -/
import Derived.Test.YtpkhbbboedoldaaS
import Derived.Test.YtpkhbbboedoldaaCH
import Derived.Test.YtpkhbbboedoldaaCHS
import Derived.Test.YtpkhbbboedoldaaCQ
import Derived.Test.YtpkhbbboedoldaaDR
namespace Go.Proofs.Ytpkhbbboedoldaa
open Go Go.Sx
set_option maxRecDepth 100000
set_option linter.unusedVariables false
theorem ct87 {fuel : Nat}  {p_m : S_api_ClMap} {met : (List S_api_ClPair)} {inks : (List Int)} {res : Bool} (h : F87 fuel p_m met inks = some res) : PCall Try.prog 87 [(ma p_m), (L51 met), (L3 inks)] (vb res) := by
 refine PCall.of_awp tt_ok (N := 42) Try.func87 rfl (by kernel_rfl) rfl (Nat.le_of_ble_eq_true rfl) rfl ?_
 unfold F87 at h
 refine g0 [1, 2, 3] [] [(1, .d (L51 met)), (2, .d (L3 inks)), (3, .ref 0 0)] [mc p_m] ?_
 refine awp_seq (g0 [1, 2, 3, 7] [] [(1, .d (L51 met)), (2, .d (L3 inks)), (3, .ref 0 0), (7, vi 0)] [mc p_m] ?_)
 obtain ⟨o1, ho1, h⟩ := ob h
 refine awp_cut1 (OutQ (fun (ro1 : Bool) => [(6, vb ro1)]) (fun (ro1 : Bool) => []) (fun (so1 : Unit) => []) (fun (so1 : Unit) => [mc p_m]) o1) ?_ ?_
 ·clear h
  have h := ho1
  clear ho1
  refine awp_selQ (gw 1 [1, 2, 3, 7] [(1, .d (L51 met)), (2, .d (L3 inks)), (3, .ref 0 0), (7, vi 0)] [mc p_m] ?_)
  refine awp_block (awp_loop (n := fuel) ?_)
  refine awpN_ind (fun n (c2 : Int) => F87L1 fuel p_m met inks n c2) o1 (fun (c2 : Int) => [(1, .d (L51 met)), (2, .d (L3 inks)), (3, .ref 0 0), (7, vi c2)]) (fun (c2 : Int) => [mc p_m]) (fun _ => rfl) ?_ fuel 0 h
  clear h
  intro n3 c2 h hrn3
  change F87L1 fuel p_m met inks (n3 + 1) c2 = some o1 at h
  rw [F87L1] at h
  refine awp_seq (g0 [1, 2, 3, 7, 11] [] [(1, .d (L51 met)), (2, .d (L3 inks)), (3, .ref 0 0), (7, vi c2), (11, vb (decide (c2 < (met.length : Int))))] [mc p_m] ?_)
  refine awp_cond (b := (decide (c2 < (met.length : Int)))) (by kernel_rfl) (fun hb4 => ?_) (fun hb4 => ?_)
  ·rw [if_pos hb4] at h
   refine awp_skip ?_
   show awp ..
   refine awp_seq (awp_block ?_)
   obtain ⟨x5, hx5, h⟩ := ob h
   obtain ⟨x6, hx6, h⟩ := ob h
   obtain ⟨x7, hx7, h⟩ := ob h
   obtain ⟨x8, hx8, h⟩ := ob h
   obtain ⟨x9, hx9, h⟩ := ob h
   obtain ⟨x10, hx10, h⟩ := ob h
   refine awp_sdraw tt_ok mixed (ks := [1, 2, 3, 7, 41]) (hs := [.no, .no, .cells (cel51 x5), .no, .no, .no, .no, .no, .no, .no, .no, .no, .no, .cells (cel51 x6), .no, .no, .cells (cel3 x7), .no, .no, .no, .no, .cells (cel51 x8), .no, .no, .cells (cel3 x9), .no, .call [(ma p_m), (di x7), (di x9)] (vb x10)]) 26 [1, 2, 3, 7, 22, 23, 31, 39, 40, 41] [(1, .d (L51 met)), (2, .d (L3 inks)), (3, .ref 0 0), (7, vi c2), (41, vb (cond (decide (x5.B < (inks.length : Int))) x10 false))] [mc p_m] [IX51 met c2 x5, ((decide (x5.B < (inks.length : Int))) = true → (decide (x5.B < (inks.length : Int))) = true), ((decide (x5.B < (inks.length : Int))) = true → (decide (x5.B < (inks.length : Int))) = true), ((decide (x5.B < (inks.length : Int))) = true → IX51 met c2 x6), ((decide (x5.B < (inks.length : Int))) = true → (decide (x5.B < (inks.length : Int))) = true), ((decide (x5.B < (inks.length : Int))) = true → (decide (x5.B < (inks.length : Int))) = true), ((decide (x5.B < (inks.length : Int))) = true → (decide (x5.B < (inks.length : Int))) = true), ((decide (x5.B < (inks.length : Int))) = true → (decide (x5.B < (inks.length : Int))) = true), ((decide (x5.B < (inks.length : Int))) = true → IX3 inks x6.A x7), ((decide (x5.B < (inks.length : Int))) = true → (decide (x5.B < (inks.length : Int))) = true), ((decide (x5.B < (inks.length : Int))) = true → (decide (x5.B < (inks.length : Int))) = true), ((decide (x5.B < (inks.length : Int))) = true → (decide (x5.B < (inks.length : Int))) = true), ((decide (x5.B < (inks.length : Int))) = true → IX51 met c2 x8), ((decide (x5.B < (inks.length : Int))) = true → (decide (x5.B < (inks.length : Int))) = true), ((decide (x5.B < (inks.length : Int))) = true → (decide (x5.B < (inks.length : Int))) = true), ((decide (x5.B < (inks.length : Int))) = true → (decide (x5.B < (inks.length : Int))) = true), ((decide (x5.B < (inks.length : Int))) = true → (decide (x5.B < (inks.length : Int))) = true), ((decide (x5.B < (inks.length : Int))) = true → IX3 inks x8.B x9), ((decide (x5.B < (inks.length : Int))) = true → (decide (x5.B < (inks.length : Int))) = true), ((decide (x5.B < (inks.length : Int))) = true → (decide (x5.B < (inks.length : Int))) = true), ((decide (x5.B < (inks.length : Int))) = true → (decide (x5.B < (inks.length : Int))) = true), ((decide (x5.B < (inks.length : Int))) = true → (decide (x5.B < (inks.length : Int))) = true), ((decide (x5.B < (inks.length : Int))) = true → PCall Try.prog 49 [(ma p_m), (di x7), (di x9)] (vb x10)), ((decide (x5.B < (inks.length : Int))) = true → (decide (x5.B < (inks.length : Int))) = true)] (by kernel_rfl) (And.intro (idxOk cel51_len hx5) (And.intro (id) (And.intro (id) (And.intro ((fun hg => idxOk cel51_len (optG_of hx6 hg))) (And.intro (id) (And.intro (id) (And.intro (id) (And.intro (id) (And.intro ((fun hg => idxOk cel3_len (optG_of hx7 hg))) (And.intro (id) (And.intro (id) (And.intro (id) (And.intro ((fun hg => idxOk cel51_len (optG_of hx8 hg))) (And.intro (id) (And.intro (id) (And.intro (id) (And.intro (id) (And.intro ((fun hg => idxOk cel3_len (optG_of hx9 hg))) (And.intro (id) (And.intro (id) (And.intro (id) (And.intro (id) (And.intro ((fun hg => ct49 (optG_of hx10 hg))) (id)))))))))))))))))))))))) ?_
   refine awp_cond (b := (cond (decide (x5.B < (inks.length : Int))) x10 false)) (by kernel_rfl) (fun hb11 => ?_) (fun hb11 => ?_)
   ·rw [if_pos hb11] at h
    refine g0 [6] [] [(6, vb false)] [mc p_m] ?_
    obtain rfl := Option.some.inj h
    refine gw 1 [6] [(6, vb false)] [mc p_m] ?_
    exact awp_ret (gs [] [6] OutQ.ret)
   ·rw [if_neg (ntrue hb11)] at h
    refine awp_skip ?_
    show awp ..
    refine x0 [1, 2, 3, 7] [] [(1, .d (L51 met)), (2, .d (L3 inks)), (3, .ref 0 0), (7, vi (w64 (c2 + 1)))] [mc p_m] ?_
    exact gn 1 [1, 2, 3, 7] (hrn3 (w64 (c2 + 1)) h)
  ·rw [if_neg (ntrue hb4)] at h
   refine awp_exit ?_
   obtain rfl := Option.some.inj h
   exact gs [0] [] OutQ.norm
 ·intro e T H hq
  cases o1 with
  | inl ro1 =>
   obtain ⟨rfl, rfl, rfl⟩ := hq
   rw [outK_inl] at h
   obtain rfl := Option.some.inj h
   exact gm
  | inr so1 =>
   obtain ⟨rfl, rfl, rfl⟩ := hq
   rw [outK_inr] at h
   show awp ..
   refine g0 [6] [] [(6, vb true)] [mc p_m] ?_
   obtain rfl := Option.some.inj h
   refine gw 1 [6] [(6, vb true)] [mc p_m] ?_
   exact awp_ret gm
theorem ct48 {fuel : Nat}  {inks : (List Int)} {res : Int} (h : F48 fuel inks = some res) : PCall Try.prog 48 [(L3 inks)] (vi res) := by
 refine PCall.of_awp tt_ok (N := 23) Try.func48 rfl (by kernel_rfl) rfl (Nat.le_of_ble_eq_true rfl) rfl ?_
 unfold F48 at h
 refine g0 [0] [] [(0, .d (L3 inks))] [] ?_
 refine g0 [0, 3] [] [(0, .d (L3 inks)), (3, vi 0)] [] ?_
 refine awp_seq (g0 [0, 3, 4] [] [(0, .d (L3 inks)), (3, vi 0), (4, vi 0)] [] ?_)
 obtain ⟨o1, ho1, h⟩ := ob h
 refine awp_cut1 (OutQ (fun (ro1 : Int) => [(2, vi ro1)]) (fun (ro1 : Int) => []) (fun (so1 : Int) => [(3, vi so1)]) (fun (so1 : Int) => []) o1) ?_ ?_
 ·clear h
  have h := ho1
  clear ho1
  refine awp_selQ (gw 0 [0, 3, 4] [(0, .d (L3 inks)), (3, vi 0), (4, vi 0)] [] ?_)
  refine awp_block (awp_loop (n := fuel) ?_)
  refine awpN_ind (fun n (c2 : Int × Int) => F48L1 fuel inks n c2) o1 (fun (c2 : Int × Int) => [(0, .d (L3 inks)), (3, vi c2.1), (4, vi c2.2)]) (fun (c2 : Int × Int) => []) (fun _ => rfl) ?_ fuel (0, 0) h
  clear h
  intro n3 c2 h hrn3
  change F48L1 fuel inks (n3 + 1) c2 = some o1 at h
  rw [F48L1] at h
  refine awp_seq (g0 [0, 3, 4, 8] [] [(0, .d (L3 inks)), (3, vi c2.1), (4, vi c2.2), (8, vb (decide (c2.2 < (inks.length : Int))))] [] ?_)
  refine awp_cond (b := (decide (c2.2 < (inks.length : Int)))) (by kernel_rfl) (fun hb4 => ?_) (fun hb4 => ?_)
  ·rw [if_pos hb4] at h
   refine awp_skip ?_
   show awp ..
   refine awp_seq (awp_block ?_)
   obtain ⟨x5, hx5, h⟩ := ob h
   obtain ⟨x6, hx6, h⟩ := ob h
   obtain ⟨x7, hx7, h⟩ := ob h
   refine awp_sdraw tt_ok mixed (ks := [0, 3, 4, 19]) (hs := [.no, .no, .list x5.length (x5.flatMap cel3), .no, .no, .cells (cel3 x6), .no, .call [(L3 x5), (di x6)] (vb x7)]) 7 [0, 3, 4, 13, 17, 18, 19] [(0, .d (L3 inks)), (3, vi c2.1), (4, vi c2.2), (19, vb (!x7))] [] [SliceOk (inks.flatMap cel3) 1 inks.length 0 c2.2 x5.length (x5.flatMap cel3), IX3 inks c2.2 x6, PCall Try.prog 46 [(L3 x5), (di x6)] (vb x7)] (by kernel_rfl) (And.intro (sliceOk cel3_len hx5) (And.intro (idxOk cel3_len hx6) (ct46 hx7))) ?_
   refine awp_cond (b := (!x7)) (by kernel_rfl) (fun hb8 => ?_) (fun hb8 => ?_)
   ·rw [if_pos hb8] at h
    refine x0 [0, 3, 4] [] [(0, .d (L3 inks)), (3, vi (w64 (c2.1 + 1))), (4, vi c2.2)] [] ?_
    show awp ..
    refine x0 [0, 3, 4] [] [(0, .d (L3 inks)), (3, vi (w64 (c2.1 + 1))), (4, vi (w64 (c2.2 + 1)))] [] ?_
    exact gn 0 [0, 3, 4] (hrn3 ((w64 (c2.1 + 1)), (w64 (c2.2 + 1))) h)
   ·rw [if_neg (ntrue hb8)] at h
    refine awp_skip ?_
    show awp ..
    refine x0 [0, 3, 4] [] [(0, .d (L3 inks)), (3, vi c2.1), (4, vi (w64 (c2.2 + 1)))] [] ?_
    exact gn 0 [0, 3, 4] (hrn3 (c2.1, (w64 (c2.2 + 1))) h)
  ·rw [if_neg (ntrue hb4)] at h
   refine awp_exit ?_
   obtain rfl := Option.some.inj h
   exact gs [] [3] OutQ.norm
 ·intro e T H hq
  cases o1 with
  | inl ro1 =>
   obtain ⟨rfl, rfl, rfl⟩ := hq
   rw [outK_inl] at h
   obtain rfl := Option.some.inj h
   exact gm
  | inr so1 =>
   obtain ⟨rfl, rfl, rfl⟩ := hq
   rw [outK_inr] at h
   show awp ..
   refine g0 [2] [] [(2, vi so1)] [] ?_
   obtain rfl := Option.some.inj h
   refine gw 0 [2] [(2, vi so1)] [] ?_
   exact awp_ret gm
theorem ct71B {fuel : Nat} {rec64 : S_api_ClMap → (List S_api_ClPair) → (List Int) → Int → Option ((List Int))} (hrec64 : ∀ (p_m : S_api_ClMap) (met : (List S_api_ClPair)) (begin : (List Int)) (bands : Int) (res : (List Int)), rec64 p_m met begin bands = some res → PCall Try.prog 71 [(ma p_m), (L51 met), (L3 begin), (di bands)] (.d (NL3 res))) {p_m : S_api_ClMap} {met : (List S_api_ClPair)} {begin : (List Int)} {bands : Int} {res : (List Int)} (h : B71 fuel rec64 p_m met begin bands = some res) : PCall Try.prog 71 [(ma p_m), (L51 met), (L3 begin), (di bands)] (.d (NL3 res)) := by
 refine PCall.of_awp tt_ok (N := 55) Try.func71 rfl (by kernel_rfl) rfl (Nat.le_of_ble_eq_true rfl) rfl ?_
 unfold B71 at h
 refine g0 [1, 2, 3, 4] [] [(1, .d (L51 met)), (2, .d (L3 begin)), (3, vi bands), (4, .ref 0 0)] [mc p_m] ?_
 refine awp_seq (g0 [1, 2, 3, 4, 16] [] [(1, .d (L51 met)), (2, .d (L3 begin)), (3, vi bands), (4, .ref 0 0), (16, vb ((begin.length : Int) == bands))] [mc p_m] ?_)
 refine awp_cond (b := ((begin.length : Int) == bands)) (by kernel_rfl) (fun hb1 => ?_) (fun hb1 => ?_)
 ·rw [if_pos hb1] at h
  refine g0 [8] [] [(8, .d (L3 begin))] [mc p_m] ?_
  obtain ⟨x2, hx2, h⟩ := ob h
  obtain rfl := Option.some.inj h
  refine gw 1 [8] [(8, .d (L3 begin))] [mc p_m] ?_
  refine awp_laxT 8 _ (NL3 begin) _ (by kernel_rfl) (.tonl (need_of hx2)) rfl ?_
  refine gw 1 [8] [(8, .d (NL3 begin))] [mc p_m] ?_
  exact awp_ret gm
 ·rw [if_neg (ntrue hb1)] at h
  refine awp_skip ?_
  show awp ..
  refine g0 [1, 2, 3, 4, 9] [] [(1, .d (L51 met)), (2, .d (L3 begin)), (3, vi bands), (4, .ref 0 0), (9, .d dnil)] [mc p_m] ?_
  refine awp_seq (g0 [1, 2, 3, 4, 9, 10] [] [(1, .d (L51 met)), (2, .d (L3 begin)), (3, vi bands), (4, .ref 0 0), (9, .d dnil), (10, vi 0)] [mc p_m] ?_)
  refine awp_laxT 9 _ (NL3 ([] : List Int)) [(9, .d (NL3 ([] : List Int))), (1, .d (L51 met)), (2, .d (L3 begin)), (3, vi bands), (4, .ref 0 0), (10, vi 0)] (by kernel_rfl) .nilnl (by kernel_rfl) ?_
  refine gw 1 [1, 2, 3, 4, 9, 10] [(1, .d (L51 met)), (2, .d (L3 begin)), (3, vi bands), (4, .ref 0 0), (9, .d (NL3 ([] : List Int))), (10, vi 0)] [mc p_m] ?_
  obtain ⟨o4, ho4, h⟩ := ob h
  refine awp_cut1 (OutQ (fun (ro4 : (List Int)) => [(8, .d (NL3 ro4))]) (fun (ro4 : (List Int)) => []) (fun (so4 : (List Int)) => [(9, .d (NL3 so4))]) (fun (so4 : (List Int)) => [mc p_m]) o4) ?_ ?_
  ·clear h
   have h := ho4
   clear ho4
   refine awp_selQ (gw 1 [1, 2, 3, 4, 9, 10] [(1, .d (L51 met)), (2, .d (L3 begin)), (3, vi bands), (4, .ref 0 0), (9, .d (NL3 ([] : List Int))), (10, vi 0)] [mc p_m] ?_)
   refine awp_block (awp_loop (n := fuel) ?_)
   refine awpN_ind (fun n (c5 : (List Int) × Int) => F71L1 fuel rec64 p_m met begin bands n c5) o4 (fun (c5 : (List Int) × Int) => [(1, .d (L51 met)), (2, .d (L3 begin)), (3, vi bands), (4, .ref 0 0), (9, .d (NL3 c5.1)), (10, vi c5.2)]) (fun (c5 : (List Int) × Int) => [mc p_m]) (fun _ => rfl) ?_ fuel (([] : List Int), 0) h
   clear h
   intro n6 c5 h hrn6
   change F71L1 fuel rec64 p_m met begin bands (n6 + 1) c5 = some o4 at h
   rw [F71L1] at h
   refine awp_seq (g0 [1, 2, 3, 4, 9, 10, 21] [] [(1, .d (L51 met)), (2, .d (L3 begin)), (3, vi bands), (4, .ref 0 0), (9, .d (NL3 c5.1)), (10, vi c5.2), (21, vb (decide (c5.2 < p_m.Inks)))] [mc p_m] ?_)
   refine awp_cond (b := (decide (c5.2 < p_m.Inks))) (by kernel_rfl) (fun hb7 => ?_) (fun hb7 => ?_)
   ·rw [if_pos hb7] at h
    refine awp_skip ?_
    show awp ..
    refine awp_seq (awp_block ?_)
    obtain ⟨x8, hx8, h⟩ := ob h
    obtain ⟨x9, hx9, h⟩ := ob h
    refine gr [1, 2, 3, 4, 9, 10, 11] [.own, .no, .list (([] : List Int) ++ begin).length ((([] : List Int) ++ begin).flatMap cel3), .no, .no, .list ((([] : List Int) ++ begin) ++ ([c5.2] : List Int)).length (((([] : List Int) ++ begin) ++ ([c5.2] : List Int)).flatMap cel3)] [(1, .d (L51 met)), (2, .d (L3 begin)), (3, vi bands), (4, .ref 0 0), (9, .d (NL3 c5.1)), (10, vi c5.2), (11, .sl 1 1 0 ((([] : List Int) ++ begin) ++ ([c5.2] : List Int)).length)] [mc p_m, .data (((([] : List Int) ++ begin) ++ ([c5.2] : List Int)).flatMap cel3)] [AppendOk ((([] : List Int).flatMap cel3).map .d) ([] : List Int).length begin.length (([] : List Int) ++ begin).length 1 8 (begin.flatMap cel3) ((([] : List Int) ++ begin).flatMap cel3), AppendOk (((([] : List Int) ++ begin).flatMap cel3).map .d) (([] : List Int) ++ begin).length ([c5.2] : List Int).length ((([] : List Int) ++ begin) ++ ([c5.2] : List Int)).length 1 8 (([c5.2] : List Int).flatMap cel3) (((([] : List Int) ++ begin) ++ ([c5.2] : List Int)).flatMap cel3)] (And.intro (appendOk cel3_len (need_of hx8)) (appendOk cel3_len (need_of hx9))) ?_
    refine awp_seq ?_
    obtain ⟨x10, hx10, h⟩ := ob h
    refine gr [1, 2, 3, 4, 9, 10, 11, 34] [.no, .no, .no, .call [(ma p_m), (L51 met), (L3 ((([] : List Int) ++ begin) ++ ([c5.2] : List Int)))] (vb x10)] [(1, .d (L51 met)), (2, .d (L3 begin)), (3, vi bands), (4, .ref 0 0), (9, .d (NL3 c5.1)), (10, vi c5.2), (11, .sl 1 1 0 ((([] : List Int) ++ begin) ++ ([c5.2] : List Int)).length), (34, vb (!x10))] [mc p_m, .data (((([] : List Int) ++ begin) ++ ([c5.2] : List Int)).flatMap cel3)] [argsOk [mc p_m, .data (((([] : List Int) ++ begin) ++ ([c5.2] : List Int)).flatMap cel3)] [.d (ma p_m), .d (L51 met), .sl 1 1 0 ((([] : List Int) ++ begin) ++ ([c5.2] : List Int)).length] [(ma p_m), (L51 met), (L3 ((([] : List Int) ++ begin) ++ ([c5.2] : List Int)))], PCall Try.prog 87 [(ma p_m), (L51 met), (L3 ((([] : List Int) ++ begin) ++ ([c5.2] : List Int)))] (vb x10)] (And.intro ((And.intro (rfl) (And.intro (rfl) (And.intro (lentOk cel3_len rfl) trivial)))) (ct87 hx10)) ?_
    refine awp_cond (b := (!x10)) (by kernel_rfl) (fun hb11 => ?_) (fun hb11 => ?_)
    ·rw [if_pos hb11] at h
     refine awp_exit ?_
     show awp ..
     refine x0 [1, 2, 3, 4, 9, 10] [] [(1, .d (L51 met)), (2, .d (L3 begin)), (3, vi bands), (4, .ref 0 0), (9, .d (NL3 c5.1)), (10, vi (w64 (c5.2 + 1)))] [mc p_m, .data (((([] : List Int) ++ begin) ++ ([c5.2] : List Int)).flatMap cel3)] ?_
     exact gn 1 [1, 2, 3, 4, 9, 10] (hrn6 (c5.1, (w64 (c5.2 + 1))) h)
    ·rw [if_neg (ntrue hb11)] at h
     refine awp_skip ?_
     show awp ..
     refine awp_freeze 11 1 (((([] : List Int) ++ begin) ++ ([c5.2] : List Int)).flatMap cel3) (.sl 1 1 0 ((([] : List Int) ++ begin) ++ ([c5.2] : List Int)).length) (.d (L3 ((([] : List Int) ++ begin) ++ ([c5.2] : List Int)))) _ _ (ps := [(((([] : List Int) ++ begin) ++ ([c5.2] : List Int)).flatMap cel3).length = ((([] : List Int) ++ begin) ++ ([c5.2] : List Int)).length * 1]) (by kernel_rfl) (by kernel_rfl) (by kernel_rfl) (flatMap_len cel3 1 cel3_len ((([] : List Int) ++ begin) ++ ([c5.2] : List Int))) rfl rfl ?_
     refine gw 2 [1, 2, 3, 4, 9, 10, 11, 34] [(1, .d (L51 met)), (2, .d (L3 begin)), (3, vi bands), (4, .ref 0 0), (9, .d (NL3 c5.1)), (10, vi c5.2), (11, .d (L3 ((([] : List Int) ++ begin) ++ ([c5.2] : List Int)))), (34, vb (!x10))] [mc p_m, .data (([] : List Int).flatMap cel3)] ?_
     obtain ⟨x12, hx12, h⟩ := ob h
     refine gr [1, 2, 3, 4, 9, 10, 12] [.no, .no, .no, .no, .call [(ma p_m), (L51 met), (L3 ((([] : List Int) ++ begin) ++ ([c5.2] : List Int))), (di bands)] (.d (NL3 x12))] [(1, .d (L51 met)), (2, .d (L3 begin)), (3, vi bands), (4, .ref 0 0), (9, .d (NL3 c5.1)), (10, vi c5.2), (12, .d (NL3 x12))] [mc p_m, .data (([] : List Int).flatMap cel3)] [PCall Try.prog 71 [(ma p_m), (L51 met), (L3 ((([] : List Int) ++ begin) ++ ([c5.2] : List Int))), (di bands)] (.d (NL3 x12))] (hrec64 _ _ _ _ _ hx12) ?_
     obtain ⟨x13, hx13, h⟩ := ob h
     obtain ⟨x14, hx14, h⟩ := ob h
     refine gr [1, 2, 3, 4, 9, 10, 12, 52] [.no, .nil (Nat.beq x12.length 0), .no, .no, .nil (Nat.beq c5.1.length 0), .no, .no, .call [(NL3 x12)] (vi x13), .no, .call [(NL3 c5.1)] (vi x14), .no, .own] [(1, .d (L51 met)), (2, .d (L3 begin)), (3, vi bands), (4, .ref 0 0), (9, .d (NL3 c5.1)), (10, vi c5.2), (12, .d (NL3 x12)), (52, vb (cond (!(Nat.beq x12.length 0)) (cond (Nat.beq c5.1.length 0) true (decide (x13 < x14))) false))] [mc p_m, .data (([] : List Int).flatMap cel3)] [NilIs (NL3 x12) (Nat.beq x12.length 0), ((!(Nat.beq x12.length 0)) = true → (!(Nat.beq x12.length 0)) = true), ((!(Nat.beq x12.length 0)) = true → NilIs (NL3 c5.1) (Nat.beq c5.1.length 0)), ((!(Nat.beq x12.length 0)) = true → (!(Nat.beq x12.length 0)) = true), (((!(Nat.beq x12.length 0)) && (!(Nat.beq c5.1.length 0))) = true → ((!(Nat.beq x12.length 0)) && (!(Nat.beq c5.1.length 0))) = true), (((!(Nat.beq x12.length 0)) && (!(Nat.beq c5.1.length 0))) = true → PCall Try.prog 48 [(NL3 x12)] (vi x13)), (((!(Nat.beq x12.length 0)) && (!(Nat.beq c5.1.length 0))) = true → ((!(Nat.beq x12.length 0)) && (!(Nat.beq c5.1.length 0))) = true), (((!(Nat.beq x12.length 0)) && (!(Nat.beq c5.1.length 0))) = true → PCall Try.prog 48 [(NL3 c5.1)] (vi x14)), (((!(Nat.beq x12.length 0)) && (!(Nat.beq c5.1.length 0))) = true → ((!(Nat.beq x12.length 0)) && (!(Nat.beq c5.1.length 0))) = true), (((!(Nat.beq x12.length 0)) && (!(Nat.beq c5.1.length 0))) = true → ((!(Nat.beq x12.length 0)) && (!(Nat.beq c5.1.length 0))) = true), ((!(Nat.beq x12.length 0)) = true → (!(Nat.beq x12.length 0)) = true), ((!(Nat.beq x12.length 0)) = true → (Nat.beq c5.1.length 0) = false → ((!(Nat.beq x12.length 0)) && (!(Nat.beq c5.1.length 0))) = true), ((!(Nat.beq x12.length 0)) = true → (!(Nat.beq x12.length 0)) = true)] (And.intro (nilIs_nl) (And.intro (id) (And.intro ((fun hg => nilIs_nl)) (And.intro (id) (And.intro (id) (And.intro ((fun hg => PCall.le (.cons (.onl nl_nil) (.nil)) (ct48 (optG_of hx13 hg)))) (And.intro (id) (And.intro ((fun hg => PCall.le (.cons (.onl nl_nil) (.nil)) (ct48 (optG_of hx14 hg)))) (And.intro (id) (And.intro (id) (And.intro (id) (And.intro ((fun hg h1 => by first | exact hg | exact h1 | (rw [hg, h1]; rfl) | (simp only [hg, h1, Bool.not_true, Bool.not_false, Bool.and_self, Bool.true_and, Bool.and_true]; done) | (simp only [Bool.and_eq_true] at hg; simp only [hg, h1, Bool.not_true, Bool.not_false, Bool.and_self, Bool.true_and, Bool.and_true]; done) | simp_all)) (id))))))))))))) ?_
     refine awp_cond (b := (cond (!(Nat.beq x12.length 0)) (cond (Nat.beq c5.1.length 0) true (decide (x13 < x14))) false)) (by kernel_rfl) (fun hb15 => ?_) (fun hb15 => ?_)
     ·rw [if_pos hb15] at h
      refine x0 [1, 2, 3, 4, 9, 10] [] [(1, .d (L51 met)), (2, .d (L3 begin)), (3, vi bands), (4, .ref 0 0), (9, .d (NL3 x12)), (10, vi c5.2)] [mc p_m, .data (([] : List Int).flatMap cel3)] ?_
      show awp ..
      refine x0 [1, 2, 3, 4, 9, 10] [] [(1, .d (L51 met)), (2, .d (L3 begin)), (3, vi bands), (4, .ref 0 0), (9, .d (NL3 x12)), (10, vi (w64 (c5.2 + 1)))] [mc p_m, .data (([] : List Int).flatMap cel3)] ?_
      exact gn 1 [1, 2, 3, 4, 9, 10] (hrn6 (x12, (w64 (c5.2 + 1))) h)
     ·rw [if_neg (ntrue hb15)] at h
      refine awp_skip ?_
      show awp ..
      refine x0 [1, 2, 3, 4, 9, 10] [] [(1, .d (L51 met)), (2, .d (L3 begin)), (3, vi bands), (4, .ref 0 0), (9, .d (NL3 c5.1)), (10, vi (w64 (c5.2 + 1)))] [mc p_m, .data (([] : List Int).flatMap cel3)] ?_
      exact gn 1 [1, 2, 3, 4, 9, 10] (hrn6 (c5.1, (w64 (c5.2 + 1))) h)
   ·rw [if_neg (ntrue hb7)] at h
    refine awp_exit ?_
    obtain rfl := Option.some.inj h
    exact gs [0] [9] OutQ.norm
  ·intro e T H hq
   cases o4 with
   | inl ro4 =>
    obtain ⟨rfl, rfl, rfl⟩ := hq
    rw [outK_inl] at h
    obtain rfl := Option.some.inj h
    exact gm
   | inr so4 =>
    obtain ⟨rfl, rfl, rfl⟩ := hq
    rw [outK_inr] at h
    show awp ..
    refine g0 [8] [] [(8, .d (NL3 so4))] [mc p_m] ?_
    obtain rfl := Option.some.inj h
    refine gw 1 [8] [(8, .d (NL3 so4))] [mc p_m] ?_
    exact awp_ret gm
theorem ct71 : ∀ {fuel : Nat} {p_m : S_api_ClMap} {met : (List S_api_ClPair)} {begin : (List Int)} {bands : Int} {res : (List Int)}, F71 fuel p_m met begin bands = some res → PCall Try.prog 71 [(ma p_m), (L51 met), (L3 begin), (di bands)] (.d (NL3 res)) := by
 intro fuel
 induction fuel with
 | zero => intro _ _ _ _ _ h; exact absurd h (by simp [F71])
 | succ n ih => intro _ _ _ _ _ h; exact ct71B (fun _ _ _ _ _ h => ih h) h
theorem ct71v1 {fuel : Nat}  {p_m : S_api_ClMap} {met : (List S_api_ClPair)} {begin : (List Int)} {bands : Int} {res : (List Int)} (h : F71v1 fuel p_m met begin bands = some res) : PCall Try.prog 71 [(ma p_m), (L51 met), dnil, (di bands)] (.d (NL3 res)) := by
 refine PCall.of_awp tt_ok (N := 55) Try.func71 rfl (by kernel_rfl) rfl (Nat.le_of_ble_eq_true rfl) rfl ?_
 unfold F71v1 at h
 refine g0 [1, 2, 3, 4] [] [(1, .d (L51 met)), (2, .d dnil), (3, vi bands), (4, .ref 0 0)] [mc p_m] ?_
 refine awp_seq (g0 [1, 2, 3, 4, 16] [] [(1, .d (L51 met)), (2, .d dnil), (3, vi bands), (4, .ref 0 0), (16, vb (0 == bands))] [mc p_m] ?_)
 refine awp_cond (b := (0 == bands)) (by kernel_rfl) (fun hb1 => ?_) (fun hb1 => ?_)
 ·rw [if_pos hb1] at h
  refine g0 [8] [] [(8, .d dnil)] [mc p_m] ?_
  obtain rfl := Option.some.inj h
  refine gw 1 [8] [(8, .d dnil)] [mc p_m] ?_
  refine awp_laxT 8 _ (NL3 ([] : List Int)) _ (by kernel_rfl) (.nilnl) rfl ?_
  refine gw 1 [8] [(8, .d (NL3 ([] : List Int)))] [mc p_m] ?_
  exact awp_ret gm
 ·rw [if_neg (ntrue hb1)] at h
  refine awp_skip ?_
  show awp ..
  refine g0 [1, 2, 3, 4, 9] [] [(1, .d (L51 met)), (2, .d dnil), (3, vi bands), (4, .ref 0 0), (9, .d dnil)] [mc p_m] ?_
  refine awp_seq (g0 [1, 2, 3, 4, 9, 10] [] [(1, .d (L51 met)), (2, .d dnil), (3, vi bands), (4, .ref 0 0), (9, .d dnil), (10, vi 0)] [mc p_m] ?_)
  refine awp_laxT 9 _ (NL3 ([] : List Int)) [(9, .d (NL3 ([] : List Int))), (1, .d (L51 met)), (2, .d dnil), (3, vi bands), (4, .ref 0 0), (10, vi 0)] (by kernel_rfl) .nilnl (by kernel_rfl) ?_
  refine gw 1 [1, 2, 3, 4, 9, 10] [(1, .d (L51 met)), (2, .d dnil), (3, vi bands), (4, .ref 0 0), (9, .d (NL3 ([] : List Int))), (10, vi 0)] [mc p_m] ?_
  obtain ⟨o3, ho3, h⟩ := ob h
  refine awp_cut1 (OutQ (fun (ro3 : (List Int)) => [(8, .d (NL3 ro3))]) (fun (ro3 : (List Int)) => []) (fun (so3 : (List Int)) => [(9, .d (NL3 so3))]) (fun (so3 : (List Int)) => [mc p_m]) o3) ?_ ?_
  ·clear h
   have h := ho3
   clear ho3
   refine awp_selQ (gw 1 [1, 2, 3, 4, 9, 10] [(1, .d (L51 met)), (2, .d dnil), (3, vi bands), (4, .ref 0 0), (9, .d (NL3 ([] : List Int))), (10, vi 0)] [mc p_m] ?_)
   refine awp_block (awp_loop (n := fuel) ?_)
   refine awpN_ind (fun n (c4 : (List Int) × Int) => F71v1L1 fuel p_m met bands n c4) o3 (fun (c4 : (List Int) × Int) => [(1, .d (L51 met)), (2, .d dnil), (3, vi bands), (4, .ref 0 0), (9, .d (NL3 c4.1)), (10, vi c4.2)]) (fun (c4 : (List Int) × Int) => [mc p_m]) (fun _ => rfl) ?_ fuel (([] : List Int), 0) h
   clear h
   intro n5 c4 h hrn5
   change F71v1L1 fuel p_m met bands (n5 + 1) c4 = some o3 at h
   rw [F71v1L1] at h
   refine awp_seq (g0 [1, 2, 3, 4, 9, 10, 21] [] [(1, .d (L51 met)), (2, .d dnil), (3, vi bands), (4, .ref 0 0), (9, .d (NL3 c4.1)), (10, vi c4.2), (21, vb (decide (c4.2 < p_m.Inks)))] [mc p_m] ?_)
   refine awp_cond (b := (decide (c4.2 < p_m.Inks))) (by kernel_rfl) (fun hb6 => ?_) (fun hb6 => ?_)
   ·rw [if_pos hb6] at h
    refine awp_skip ?_
    show awp ..
    refine awp_seq (awp_block ?_)
    obtain ⟨x7, hx7, h⟩ := ob h
    obtain ⟨x8, hx8, h⟩ := ob h
    refine gr [1, 2, 3, 4, 9, 10, 11] [.own, .no, .list (([] : List Int) ++ ([] : List Int)).length ((([] : List Int) ++ ([] : List Int)).flatMap cel3), .no, .no, .list ((([] : List Int) ++ ([] : List Int)) ++ ([c4.2] : List Int)).length (((([] : List Int) ++ ([] : List Int)) ++ ([c4.2] : List Int)).flatMap cel3)] [(1, .d (L51 met)), (2, .d dnil), (3, vi bands), (4, .ref 0 0), (9, .d (NL3 c4.1)), (10, vi c4.2), (11, .sl 1 1 0 ((([] : List Int) ++ ([] : List Int)) ++ ([c4.2] : List Int)).length)] [mc p_m, .data (((([] : List Int) ++ ([] : List Int)) ++ ([c4.2] : List Int)).flatMap cel3)] [AppendOk ((([] : List Int).flatMap cel3).map .d) ([] : List Int).length ([] : List Int).length (([] : List Int) ++ ([] : List Int)).length 1 8 (([] : List Int).flatMap cel3) ((([] : List Int) ++ ([] : List Int)).flatMap cel3), AppendOk (((([] : List Int) ++ ([] : List Int)).flatMap cel3).map .d) (([] : List Int) ++ ([] : List Int)).length ([c4.2] : List Int).length ((([] : List Int) ++ ([] : List Int)) ++ ([c4.2] : List Int)).length 1 8 (([c4.2] : List Int).flatMap cel3) (((([] : List Int) ++ ([] : List Int)) ++ ([c4.2] : List Int)).flatMap cel3)] (And.intro (appendOk cel3_len (need_of hx7)) (appendOk cel3_len (need_of hx8))) ?_
    refine awp_seq ?_
    obtain ⟨x9, hx9, h⟩ := ob h
    refine gr [1, 2, 3, 4, 9, 10, 11, 34] [.no, .no, .no, .call [(ma p_m), (L51 met), (L3 ((([] : List Int) ++ ([] : List Int)) ++ ([c4.2] : List Int)))] (vb x9)] [(1, .d (L51 met)), (2, .d dnil), (3, vi bands), (4, .ref 0 0), (9, .d (NL3 c4.1)), (10, vi c4.2), (11, .sl 1 1 0 ((([] : List Int) ++ ([] : List Int)) ++ ([c4.2] : List Int)).length), (34, vb (!x9))] [mc p_m, .data (((([] : List Int) ++ ([] : List Int)) ++ ([c4.2] : List Int)).flatMap cel3)] [argsOk [mc p_m, .data (((([] : List Int) ++ ([] : List Int)) ++ ([c4.2] : List Int)).flatMap cel3)] [.d (ma p_m), .d (L51 met), .sl 1 1 0 ((([] : List Int) ++ ([] : List Int)) ++ ([c4.2] : List Int)).length] [(ma p_m), (L51 met), (L3 ((([] : List Int) ++ ([] : List Int)) ++ ([c4.2] : List Int)))], PCall Try.prog 87 [(ma p_m), (L51 met), (L3 ((([] : List Int) ++ ([] : List Int)) ++ ([c4.2] : List Int)))] (vb x9)] (And.intro ((And.intro (rfl) (And.intro (rfl) (And.intro (lentOk cel3_len rfl) trivial)))) (ct87 hx9)) ?_
    refine awp_cond (b := (!x9)) (by kernel_rfl) (fun hb10 => ?_) (fun hb10 => ?_)
    ·rw [if_pos hb10] at h
     refine awp_exit ?_
     show awp ..
     refine x0 [1, 2, 3, 4, 9, 10] [] [(1, .d (L51 met)), (2, .d dnil), (3, vi bands), (4, .ref 0 0), (9, .d (NL3 c4.1)), (10, vi (w64 (c4.2 + 1)))] [mc p_m, .data (((([] : List Int) ++ ([] : List Int)) ++ ([c4.2] : List Int)).flatMap cel3)] ?_
     exact gn 1 [1, 2, 3, 4, 9, 10] (hrn5 (c4.1, (w64 (c4.2 + 1))) h)
    ·rw [if_neg (ntrue hb10)] at h
     refine awp_skip ?_
     show awp ..
     refine awp_freeze 11 1 (((([] : List Int) ++ ([] : List Int)) ++ ([c4.2] : List Int)).flatMap cel3) (.sl 1 1 0 ((([] : List Int) ++ ([] : List Int)) ++ ([c4.2] : List Int)).length) (.d (L3 ((([] : List Int) ++ ([] : List Int)) ++ ([c4.2] : List Int)))) _ _ (ps := [(((([] : List Int) ++ ([] : List Int)) ++ ([c4.2] : List Int)).flatMap cel3).length = ((([] : List Int) ++ ([] : List Int)) ++ ([c4.2] : List Int)).length * 1]) (by kernel_rfl) (by kernel_rfl) (by kernel_rfl) (flatMap_len cel3 1 cel3_len ((([] : List Int) ++ ([] : List Int)) ++ ([c4.2] : List Int))) rfl rfl ?_
     refine gw 2 [1, 2, 3, 4, 9, 10, 11, 34] [(1, .d (L51 met)), (2, .d dnil), (3, vi bands), (4, .ref 0 0), (9, .d (NL3 c4.1)), (10, vi c4.2), (11, .d (L3 ((([] : List Int) ++ ([] : List Int)) ++ ([c4.2] : List Int)))), (34, vb (!x9))] [mc p_m, .data (([] : List Int).flatMap cel3)] ?_
     obtain ⟨x11, hx11, h⟩ := ob h
     refine gr [1, 2, 3, 4, 9, 10, 12] [.no, .no, .no, .no, .call [(ma p_m), (L51 met), (L3 ((([] : List Int) ++ ([] : List Int)) ++ ([c4.2] : List Int))), (di bands)] (.d (NL3 x11))] [(1, .d (L51 met)), (2, .d dnil), (3, vi bands), (4, .ref 0 0), (9, .d (NL3 c4.1)), (10, vi c4.2), (12, .d (NL3 x11))] [mc p_m, .data (([] : List Int).flatMap cel3)] [PCall Try.prog 71 [(ma p_m), (L51 met), (L3 ((([] : List Int) ++ ([] : List Int)) ++ ([c4.2] : List Int))), (di bands)] (.d (NL3 x11))] (ct71 hx11) ?_
     obtain ⟨x12, hx12, h⟩ := ob h
     obtain ⟨x13, hx13, h⟩ := ob h
     refine gr [1, 2, 3, 4, 9, 10, 12, 52] [.no, .nil (Nat.beq x11.length 0), .no, .no, .nil (Nat.beq c4.1.length 0), .no, .no, .call [(NL3 x11)] (vi x12), .no, .call [(NL3 c4.1)] (vi x13), .no, .own] [(1, .d (L51 met)), (2, .d dnil), (3, vi bands), (4, .ref 0 0), (9, .d (NL3 c4.1)), (10, vi c4.2), (12, .d (NL3 x11)), (52, vb (cond (!(Nat.beq x11.length 0)) (cond (Nat.beq c4.1.length 0) true (decide (x12 < x13))) false))] [mc p_m, .data (([] : List Int).flatMap cel3)] [NilIs (NL3 x11) (Nat.beq x11.length 0), ((!(Nat.beq x11.length 0)) = true → (!(Nat.beq x11.length 0)) = true), ((!(Nat.beq x11.length 0)) = true → NilIs (NL3 c4.1) (Nat.beq c4.1.length 0)), ((!(Nat.beq x11.length 0)) = true → (!(Nat.beq x11.length 0)) = true), (((!(Nat.beq x11.length 0)) && (!(Nat.beq c4.1.length 0))) = true → ((!(Nat.beq x11.length 0)) && (!(Nat.beq c4.1.length 0))) = true), (((!(Nat.beq x11.length 0)) && (!(Nat.beq c4.1.length 0))) = true → PCall Try.prog 48 [(NL3 x11)] (vi x12)), (((!(Nat.beq x11.length 0)) && (!(Nat.beq c4.1.length 0))) = true → ((!(Nat.beq x11.length 0)) && (!(Nat.beq c4.1.length 0))) = true), (((!(Nat.beq x11.length 0)) && (!(Nat.beq c4.1.length 0))) = true → PCall Try.prog 48 [(NL3 c4.1)] (vi x13)), (((!(Nat.beq x11.length 0)) && (!(Nat.beq c4.1.length 0))) = true → ((!(Nat.beq x11.length 0)) && (!(Nat.beq c4.1.length 0))) = true), (((!(Nat.beq x11.length 0)) && (!(Nat.beq c4.1.length 0))) = true → ((!(Nat.beq x11.length 0)) && (!(Nat.beq c4.1.length 0))) = true), ((!(Nat.beq x11.length 0)) = true → (!(Nat.beq x11.length 0)) = true), ((!(Nat.beq x11.length 0)) = true → (Nat.beq c4.1.length 0) = false → ((!(Nat.beq x11.length 0)) && (!(Nat.beq c4.1.length 0))) = true), ((!(Nat.beq x11.length 0)) = true → (!(Nat.beq x11.length 0)) = true)] (And.intro (nilIs_nl) (And.intro (id) (And.intro ((fun hg => nilIs_nl)) (And.intro (id) (And.intro (id) (And.intro ((fun hg => PCall.le (.cons (.onl nl_nil) (.nil)) (ct48 (optG_of hx12 hg)))) (And.intro (id) (And.intro ((fun hg => PCall.le (.cons (.onl nl_nil) (.nil)) (ct48 (optG_of hx13 hg)))) (And.intro (id) (And.intro (id) (And.intro (id) (And.intro ((fun hg h1 => by first | exact hg | exact h1 | (rw [hg, h1]; rfl) | (simp only [hg, h1, Bool.not_true, Bool.not_false, Bool.and_self, Bool.true_and, Bool.and_true]; done) | (simp only [Bool.and_eq_true] at hg; simp only [hg, h1, Bool.not_true, Bool.not_false, Bool.and_self, Bool.true_and, Bool.and_true]; done) | simp_all)) (id))))))))))))) ?_
     refine awp_cond (b := (cond (!(Nat.beq x11.length 0)) (cond (Nat.beq c4.1.length 0) true (decide (x12 < x13))) false)) (by kernel_rfl) (fun hb14 => ?_) (fun hb14 => ?_)
     ·rw [if_pos hb14] at h
      refine x0 [1, 2, 3, 4, 9, 10] [] [(1, .d (L51 met)), (2, .d dnil), (3, vi bands), (4, .ref 0 0), (9, .d (NL3 x11)), (10, vi c4.2)] [mc p_m, .data (([] : List Int).flatMap cel3)] ?_
      show awp ..
      refine x0 [1, 2, 3, 4, 9, 10] [] [(1, .d (L51 met)), (2, .d dnil), (3, vi bands), (4, .ref 0 0), (9, .d (NL3 x11)), (10, vi (w64 (c4.2 + 1)))] [mc p_m, .data (([] : List Int).flatMap cel3)] ?_
      exact gn 1 [1, 2, 3, 4, 9, 10] (hrn5 (x11, (w64 (c4.2 + 1))) h)
     ·rw [if_neg (ntrue hb14)] at h
      refine awp_skip ?_
      show awp ..
      refine x0 [1, 2, 3, 4, 9, 10] [] [(1, .d (L51 met)), (2, .d dnil), (3, vi bands), (4, .ref 0 0), (9, .d (NL3 c4.1)), (10, vi (w64 (c4.2 + 1)))] [mc p_m, .data (([] : List Int).flatMap cel3)] ?_
      exact gn 1 [1, 2, 3, 4, 9, 10] (hrn5 (c4.1, (w64 (c4.2 + 1))) h)
   ·rw [if_neg (ntrue hb6)] at h
    refine awp_exit ?_
    obtain rfl := Option.some.inj h
    exact gs [0] [9] OutQ.norm
  ·intro e T H hq
   cases o3 with
   | inl ro3 =>
    obtain ⟨rfl, rfl, rfl⟩ := hq
    rw [outK_inl] at h
    obtain rfl := Option.some.inj h
    exact gm
   | inr so3 =>
    obtain ⟨rfl, rfl, rfl⟩ := hq
    rw [outK_inr] at h
    show awp ..
    refine g0 [8] [] [(8, .d (NL3 so3))] [mc p_m] ?_
    obtain rfl := Option.some.inj h
    refine gw 1 [8] [(8, .d (NL3 so3))] [mc p_m] ?_
    exact awp_ret gm
theorem ct32 {fuel : Nat}  {p_m : S_api_ClMap} {legend : (List Int)} {res : (List Int) × Int × Int} (h : F32 fuel p_m legend = some res) : PCall Try.prog 32 [(ma p_m), (L3 legend)] (.tup [.d (L3 res.1), vi res.2.1, vi res.2.2]) := by
 refine PCall.of_awp tt_ok (N := 32) Try.func32 rfl (by kernel_rfl) rfl (Nat.le_of_ble_eq_true rfl) rfl ?_
 unfold F32 at h
 refine g0 [1, 2] [] [(1, .d (L3 legend)), (2, .ref 0 0)] [mc p_m] ?_
 obtain ⟨x1, hx1, h⟩ := ob h
 refine gr [1, 2, 8] [.no, .no, .call [(ma p_m), (L3 legend)] (.tup [vi x1.1, vi x1.2])] [(1, .d (L3 legend)), (2, .ref 0 0), (8, vi x1.2)] [mc p_m] [PCall Try.prog 20 [(ma p_m), (L3 legend)] (.tup [vi x1.1, vi x1.2])] (ct20 hx1) ?_
 refine awp_seq (g0 [1, 2, 8, 17] [] [(1, .d (L3 legend)), (2, .ref 0 0), (8, vi x1.2), (17, vb (x1.2 != 0))] [mc p_m] ?_)
 refine awp_cond (b := (x1.2 != 0)) (by kernel_rfl) (fun hb2 => ?_) (fun hb2 => ?_)
 ·rw [if_pos hb2] at h
  refine g0 [4, 5, 6] [] [(4, .d dnil), (5, vi 0), (6, vi x1.2)] [mc p_m] ?_
  obtain rfl := Option.some.inj h
  refine gw 1 [4, 5, 6] [(4, .d dnil), (5, vi 0), (6, vi x1.2)] [mc p_m] ?_
  refine awp_laxT 4 _ (L3 ([] : List Int)) _ (by kernel_rfl) (.nil (e := 1)) rfl ?_
  refine gw 1 [4, 5, 6] [(4, .d (L3 ([] : List Int))), (5, vi 0), (6, vi x1.2)] [mc p_m] ?_
  exact awp_ret gm
 ·rw [if_neg (ntrue hb2)] at h
  refine awp_skip ?_
  show awp ..
  obtain ⟨x3, hx3, h⟩ := ob h
  obtain ⟨x4, hx4, h⟩ := ob h
  refine awp_sdraw tt_ok mixed (ks := [9]) (hs := [.no, .no, .no, .call [(ma p_m), (L3 legend)] (.d (L51 x3)), .no, .no, .no, .call [(ma p_m), (L51 x3), dnil, (di (w64 ((legend.length : Int) + 1)))] (.d (NL3 x4))]) 7 [9, 19, 22, 25, 26] [(9, .d (NL3 x4))] [mc p_m] [PCall Try.prog 67 [(ma p_m), (L3 legend)] (.d (L51 x3)), PCall Try.prog 71 [(ma p_m), (L51 x3), dnil, (di (w64 ((legend.length : Int) + 1)))] (.d (NL3 x4))] (by kernel_rfl) (And.intro (ct67 hx3) (ct71v1 hx4)) ?_
  refine awp_seq (gr [9, 28] [.no, .nil (Nat.beq x4.length 0)] [(9, .d (NL3 x4)), (28, vb (Nat.beq x4.length 0))] [mc p_m] [NilIs (NL3 x4) (Nat.beq x4.length 0)] (nilIs_nl) ?_)
  refine awp_cond (b := (Nat.beq x4.length 0)) (by kernel_rfl) (fun hb5 => ?_) (fun hb5 => ?_)
  ·rw [if_pos hb5] at h
   refine g0 [4, 5, 6] [] [(4, .d dnil), (5, vi 0), (6, vi 9)] [mc p_m] ?_
   obtain rfl := Option.some.inj h
   refine gw 1 [4, 5, 6] [(4, .d dnil), (5, vi 0), (6, vi 9)] [mc p_m] ?_
   refine awp_laxT 4 _ (L3 ([] : List Int)) _ (by kernel_rfl) (.nil (e := 1)) rfl ?_
   refine gw 1 [4, 5, 6] [(4, .d (L3 ([] : List Int))), (5, vi 0), (6, vi 9)] [mc p_m] ?_
   exact awp_ret gm
  ·rw [if_neg (ntrue hb5)] at h
   refine awp_skip ?_
   show awp ..
   obtain ⟨x6, hx6, h⟩ := ob h
   refine gr [4, 5, 6] [.no, .no, .call [(NL3 x4)] (vi x6)] [(4, .d (NL3 x4)), (5, vi x6), (6, vi 0)] [mc p_m] [PCall Try.prog 48 [(NL3 x4)] (vi x6)] (PCall.le (.cons (.onl nl_nil) (.nil)) (ct48 hx6)) ?_
   obtain rfl := Option.some.inj h
   refine gw 1 [4, 5, 6] [(4, .d (NL3 x4)), (5, vi x6), (6, vi 0)] [mc p_m] ?_
   refine awp_laxT 4 _ (L3 x4) _ (by kernel_rfl) (.onl nl_nil) rfl ?_
   refine gw 1 [4, 5, 6] [(4, .d (L3 x4)), (5, vi x6), (6, vi 0)] [mc p_m] ?_
   exact awp_ret gm
end Go.Proofs.Ytpkhbbboedoldaa
