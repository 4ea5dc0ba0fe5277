/- That functions of the seat compute this. Printed by a program of mine. -/
import Derived.Test.YtpkhbbboedoldaaS
import Derived.Test.YtpkhbbboedoldaaCA
import Derived.Test.YtpkhbbboedoldaaCHS
import Derived.Test.YtpkhbbboedoldaaCIK
import Derived.Test.YtpkhbbboedoldaaCLB
import Derived.Test.YtpkhbbboedoldaaCLG
import Derived.Test.YtpkhbbboedoldaaCM
import Derived.Test.YtpkhbbboedoldaaCW
import Derived.Test.YtpkhbbboedoldaaDI
namespace Go.Proofs.Ytpkhbbboedoldaa
open Go Go.Sx
set_option maxRecDepth 100000
set_option linter.unusedVariables false
theorem ct78 {fuel : Nat}  {p_s : S_api_Span} {legend : (List Int)} {res : (List Int)} (h : F78 fuel p_s legend = some res) : PCall Try.prog 78 [(.agg [(di p_s.Lo), (di p_s.Hi)]), (L3 legend)] (.d (L3 res)) := by
 refine PCall.of_awp tt_ok (N := 30) Try.func78 rfl (by kernel_rfl) rfl (Nat.le_of_ble_eq_true rfl) rfl ?_
 unfold F78 at h
 refine g0 [1, 2] [] [(1, .d (L3 legend)), (2, .ref 0 0)] [.cells [vi p_s.Lo, vi p_s.Hi]] ?_
 refine g0 [1, 2, 5] [.no, .no, .own] [(1, .d (L3 legend)), (2, .ref 0 0), (5, .sl 1 1 0 ([p_s.Lo] : List Int).length)] [.cells [vi p_s.Lo, vi p_s.Hi], .data (([p_s.Lo] : List Int).flatMap cel3)] ?_
 refine awp_seq (g0 [1, 2, 5, 6] [] [(1, .d (L3 legend)), (2, .ref 0 0), (5, .sl 1 1 0 ([p_s.Lo] : List Int).length), (6, vi 0)] [.cells [vi p_s.Lo, vi p_s.Hi], .data (([p_s.Lo] : List Int).flatMap cel3)] ?_)
 obtain ⟨o1, ho1, h⟩ := ob h
 refine awp_cut1 (OutQ (fun (ro1 : (List Int)) => [(4, .d (L3 ro1))]) (fun (ro1 : (List Int)) => []) (fun (so1 : (List Int)) => [(5, .sl 1 1 0 so1.length)]) (fun (so1 : (List Int)) => [.cells [vi p_s.Lo, vi p_s.Hi], .data (so1.flatMap cel3)]) o1) ?_ ?_
 ·clear h
  have h := ho1
  clear ho1
  refine awp_selQ (gw 2 [1, 2, 5, 6] [(1, .d (L3 legend)), (2, .ref 0 0), (5, .sl 1 1 0 ([p_s.Lo] : List Int).length), (6, vi 0)] [.cells [vi p_s.Lo, vi p_s.Hi], .data (([p_s.Lo] : List Int).flatMap cel3)] ?_)
  refine awp_block (awp_loop (n := fuel) ?_)
  refine awpN_ind (fun n (c2 : Int × (List Int)) => F78L1 p_s legend n c2) o1 (fun (c2 : Int × (List Int)) => [(1, .d (L3 legend)), (2, .ref 0 0), (5, .sl 1 1 0 c2.2.length), (6, vi c2.1)]) (fun (c2 : Int × (List Int)) => [.cells [vi p_s.Lo, vi p_s.Hi], .data (c2.2.flatMap cel3)]) (fun _ => rfl) ?_ fuel (0, ([p_s.Lo] : List Int)) h
  clear h
  intro n3 c2 h hrn3
  change F78L1 p_s legend (n3 + 1) c2 = some o1 at h
  rw [F78L1] at h
  refine awp_seq (g0 [1, 2, 5, 6, 13] [] [(1, .d (L3 legend)), (2, .ref 0 0), (5, .sl 1 1 0 c2.2.length), (6, vi c2.1), (13, vb (decide (c2.1 < (legend.length : Int))))] [.cells [vi p_s.Lo, vi p_s.Hi], .data (c2.2.flatMap cel3)] ?_)
  refine awp_cond (b := (decide (c2.1 < (legend.length : Int)))) (by kernel_rfl) (fun hb4 => ?_) (fun hb4 => ?_)
  ·rw [if_pos hb4] at h
   refine awp_skip ?_
   show awp ..
   refine awp_seq (awp_block ?_)
   obtain ⟨x5, hx5, h⟩ := ob h
   obtain ⟨x6, hx6, h⟩ := ob h
   refine awp_sdraw tt_ok mixed (ks := [1, 2, 5, 6, 21]) (hs := [.no, .no, .cells (cel3 x5), .no, .no, .call [(di x5), (.agg [(di p_s.Lo), (di p_s.Hi)])] (vb x6)]) 5 [1, 2, 5, 6, 19, 20, 21] [(1, .d (L3 legend)), (2, .ref 0 0), (5, .sl 1 1 0 c2.2.length), (6, vi c2.1), (21, vb x6)] [.cells [vi p_s.Lo, vi p_s.Hi], .data (c2.2.flatMap cel3)] [IX3 legend c2.1 x5, PCall Try.prog 45 [(di x5), (.agg [(di p_s.Lo), (di p_s.Hi)])] (vb x6)] (by kernel_rfl) (And.intro (idxOk cel3_len hx5) (ct45 hx6)) ?_
   refine awp_cond (b := x6) (by kernel_rfl) (fun hb7 => ?_) (fun hb7 => ?_)
   ·rw [if_pos hb7] at h
    obtain ⟨x8, hx8, h⟩ := ob h
    obtain ⟨x9, hx9, h⟩ := ob h
    refine xr [1, 2, 5, 6] [.no, .no, .no, .cells (cel3 x8), .no, .no, .list (c2.2 ++ ([x8] : List Int)).length ((c2.2 ++ ([x8] : List Int)).flatMap cel3)] [(1, .d (L3 legend)), (2, .ref 0 0), (5, .sl 1 1 0 (c2.2 ++ ([x8] : List Int)).length), (6, vi c2.1)] [.cells [vi p_s.Lo, vi p_s.Hi], .data ((c2.2 ++ ([x8] : List Int)).flatMap cel3)] [IX3 legend c2.1 x8, AppendOk ((c2.2.flatMap cel3).map .d) c2.2.length ([x8] : List Int).length (c2.2 ++ ([x8] : List Int)).length 1 8 (([x8] : List Int).flatMap cel3) ((c2.2 ++ ([x8] : List Int)).flatMap cel3)] (And.intro (idxOk cel3_len hx8) (appendOk cel3_len (need_of hx9))) ?_
    show awp ..
    refine x0 [1, 2, 5, 6] [] [(1, .d (L3 legend)), (2, .ref 0 0), (5, .sl 1 1 0 (c2.2 ++ ([x8] : List Int)).length), (6, vi (w64 (c2.1 + 1)))] [.cells [vi p_s.Lo, vi p_s.Hi], .data ((c2.2 ++ ([x8] : List Int)).flatMap cel3)] ?_
    exact gn 2 [1, 2, 5, 6] (hrn3 ((w64 (c2.1 + 1)), (c2.2 ++ ([x8] : List Int))) h)
   ·rw [if_neg (ntrue hb7)] at h
    refine awp_skip ?_
    show awp ..
    refine x0 [1, 2, 5, 6] [] [(1, .d (L3 legend)), (2, .ref 0 0), (5, .sl 1 1 0 c2.2.length), (6, vi (w64 (c2.1 + 1)))] [.cells [vi p_s.Lo, vi p_s.Hi], .data (c2.2.flatMap cel3)] ?_
    exact gn 2 [1, 2, 5, 6] (hrn3 ((w64 (c2.1 + 1)), c2.2) h)
  ·rw [if_neg (ntrue hb4)] at h
   refine awp_exit ?_
   obtain rfl := Option.some.inj h
   exact gs [0, 1] [5] OutQ.norm
 ·intro e T H hq
  cases o1 with
  | inl ro1 =>
   obtain ⟨rfl, rfl, rfl⟩ := hq
   rw [outK_inl] at h
   obtain rfl := Option.some.inj h
   exact gm
  | inr so1 =>
   obtain ⟨rfl, rfl, rfl⟩ := hq
   rw [outK_inr] at h
   show awp ..
   refine g0 [4] [] [(4, .sl 1 1 0 so1.length)] [.cells [vi p_s.Lo, vi p_s.Hi], .data (so1.flatMap cel3)] ?_
   obtain rfl := Option.some.inj h
   refine gw 2 [4] [(4, .sl 1 1 0 so1.length)] [.cells [vi p_s.Lo, vi p_s.Hi], .data (so1.flatMap cel3)] ?_
   refine awp_freeze 4 1 (so1.flatMap cel3) (.sl 1 1 0 so1.length) (.d (L3 so1)) _ _ (ps := [(so1.flatMap cel3).length = so1.length * 1]) (by kernel_rfl) (by kernel_rfl) (by kernel_rfl) (flatMap_len cel3 1 cel3_len so1) rfl rfl ?_
   refine gw 2 [4] [(4, .d (L3 so1))] [.cells [vi p_s.Lo, vi p_s.Hi], .data (([] : List Int).flatMap cel3)] ?_
   exact awp_ret gm
theorem ct51 {fuel : Nat}  {p_m : S_api_ClMap} {legend : (List Int)} {inks : (List Int)} {p_s : S_api_ClPair} {res : Bool} (h : F51 fuel p_m legend inks p_s = some res) : PCall Try.prog 51 [(ma p_m), (L3 legend), (L3 inks), (.agg [(di p_s.A), (di p_s.B)])] (vb res) := by
 refine PCall.of_awp tt_ok (N := 70) Try.func51 rfl (by kernel_rfl) rfl (Nat.le_of_ble_eq_true rfl) rfl ?_
 unfold F51 at h
 refine g0 [1, 2, 4, 7] [] [(1, .d (L3 legend)), (2, .d (L3 inks)), (4, .ref 0 0), (7, .ref 1 0)] [mc p_m, .cells [vi p_s.A, vi p_s.B]] ?_
 obtain ⟨x1, hx1, h⟩ := ob h
 obtain ⟨x2, hx2, h⟩ := ob h
 obtain ⟨x3, hx3, h⟩ := ob h
 obtain ⟨x4, hx4, h⟩ := ob h
 refine awp_sdraw tt_ok mixed (ks := [1, 2, 4, 9, 10]) (hs := [.no, .no, .no, .no, .cells (cel60 x1), .no, .no, .call [(.agg [(di x1.Lo), (di x1.Hi)]), (L3 legend)] (.d (L3 x2)), .no, .no, .no, .no, .cells (cel60 x3), .no, .no, .call [(.agg [(di x3.Lo), (di x3.Hi)]), (L3 legend)] (.d (L3 x4))]) 15 [1, 2, 4, 9, 10, 22, 28, 29, 30] [(1, .d (L3 legend)), (2, .d (L3 inks)), (4, .ref 0 0), (9, .d (L3 x2)), (10, .d (L3 x4))] [mc p_m, .cells [vi p_s.A, vi p_s.B]] [IX60 p_m.Heights p_s.A x1, PCall Try.prog 78 [(.agg [(di x1.Lo), (di x1.Hi)]), (L3 legend)] (.d (L3 x2)), IX60 p_m.Heights p_s.B x3, PCall Try.prog 78 [(.agg [(di x3.Lo), (di x3.Hi)]), (L3 legend)] (.d (L3 x4))] (by kernel_rfl) (And.intro (idxOk cel60_len hx1) (And.intro (ct78 hx2) (And.intro (idxOk cel60_len hx3) (ct78 hx4)))) ?_
 refine awp_seq (g0 [1, 2, 4, 9, 10, 11] [] [(1, .d (L3 legend)), (2, .d (L3 inks)), (4, .ref 0 0), (9, .d (L3 x2)), (10, .d (L3 x4)), (11, vi 0)] [mc p_m, .cells [vi p_s.A, vi p_s.B]] ?_)
 obtain ⟨o5, ho5, h⟩ := ob h
 refine awp_cut1 (OutQ (fun (ro5 : Bool) => [(8, vb ro5)]) (fun (ro5 : Bool) => []) (fun (so5 : Unit) => []) (fun (so5 : Unit) => [mc p_m, .cells [vi p_s.A, vi p_s.B]]) o5) ?_ ?_
 ·clear h
  have h := ho5
  clear ho5
  refine awp_selQ (gw 2 [1, 2, 4, 9, 10, 11] [(1, .d (L3 legend)), (2, .d (L3 inks)), (4, .ref 0 0), (9, .d (L3 x2)), (10, .d (L3 x4)), (11, vi 0)] [mc p_m, .cells [vi p_s.A, vi p_s.B]] ?_)
  refine awp_block (awp_loop (n := fuel) ?_)
  refine awpN_ind (fun n (c6 : Int) => F51L1 fuel p_m legend inks x2 x4 n c6) o5 (fun (c6 : Int) => [(1, .d (L3 legend)), (2, .d (L3 inks)), (4, .ref 0 0), (9, .d (L3 x2)), (10, .d (L3 x4)), (11, vi c6)]) (fun (c6 : Int) => [mc p_m, .cells [vi p_s.A, vi p_s.B]]) (fun _ => rfl) ?_ fuel 0 h
  clear h
  intro n7 c6 h hrn7
  change F51L1 fuel p_m legend inks x2 x4 (n7 + 1) c6 = some o5 at h
  rw [F51L1] at h
  refine awp_seq (g0 [1, 2, 4, 9, 10, 11, 34] [] [(1, .d (L3 legend)), (2, .d (L3 inks)), (4, .ref 0 0), (9, .d (L3 x2)), (10, .d (L3 x4)), (11, vi c6), (34, vb (decide (c6 < (x2.length : Int))))] [mc p_m, .cells [vi p_s.A, vi p_s.B]] ?_)
  refine awp_cond (b := (decide (c6 < (x2.length : Int)))) (by kernel_rfl) (fun hb8 => ?_) (fun hb8 => ?_)
  ·rw [if_pos hb8] at h
   refine awp_skip ?_
   show awp ..
   refine awp_seq (awp_block ?_)
   refine g0 [1, 2, 4, 9, 10, 11, 12] [] [(1, .d (L3 legend)), (2, .d (L3 inks)), (4, .ref 0 0), (9, .d (L3 x2)), (10, .d (L3 x4)), (11, vi c6), (12, vi 0)] [mc p_m, .cells [vi p_s.A, vi p_s.B]] ?_
   obtain ⟨o9, ho9, h⟩ := ob h
   refine awp_cut1 (OutQ (fun (ro9 : Bool) => [(8, vb ro9)]) (fun (ro9 : Bool) => []) (fun (so9 : Unit) => [(1, .d (L3 legend)), (2, .d (L3 inks)), (4, .ref 0 0), (9, .d (L3 x2)), (10, .d (L3 x4)), (11, vi c6)]) (fun (so9 : Unit) => [mc p_m, .cells [vi p_s.A, vi p_s.B]]) o9) ?_ ?_
   ·clear h
    have h := ho9
    clear ho9
    refine awp_selQ (gw 2 [1, 2, 4, 9, 10, 11, 12] [(1, .d (L3 legend)), (2, .d (L3 inks)), (4, .ref 0 0), (9, .d (L3 x2)), (10, .d (L3 x4)), (11, vi c6), (12, vi 0)] [mc p_m, .cells [vi p_s.A, vi p_s.B]] ?_)
    refine awp_block (awp_loop (n := fuel) ?_)
    refine awpN_ind (fun n (c10 : Int) => F51L2 fuel p_m legend inks x2 x4 c6 n c10) o9 (fun (c10 : Int) => [(1, .d (L3 legend)), (2, .d (L3 inks)), (4, .ref 0 0), (9, .d (L3 x2)), (10, .d (L3 x4)), (11, vi c6), (12, vi c10)]) (fun (c10 : Int) => [mc p_m, .cells [vi p_s.A, vi p_s.B]]) (fun _ => rfl) ?_ fuel 0 h
    clear h
    intro n11 c10 h hrn11
    change F51L2 fuel p_m legend inks x2 x4 c6 (n11 + 1) c10 = some o9 at h
    rw [F51L2] at h
    refine awp_seq (g0 [1, 2, 4, 9, 10, 11, 12, 40] [] [(1, .d (L3 legend)), (2, .d (L3 inks)), (4, .ref 0 0), (9, .d (L3 x2)), (10, .d (L3 x4)), (11, vi c6), (12, vi c10), (40, vb (decide (c10 < (x4.length : Int))))] [mc p_m, .cells [vi p_s.A, vi p_s.B]] ?_)
    refine awp_cond (b := (decide (c10 < (x4.length : Int)))) (by kernel_rfl) (fun hb12 => ?_) (fun hb12 => ?_)
    ·rw [if_pos hb12] at h
     refine awp_skip ?_
     show awp ..
     refine awp_seq (awp_block ?_)
     obtain ⟨x13, hx13, h⟩ := ob h
     obtain ⟨x14, hx14, h⟩ := ob h
     obtain ⟨x15, hx15, h⟩ := ob h
     obtain ⟨x16, hx16, h⟩ := ob h
     refine awp_sdraw tt_ok mixed (ks := [1, 2, 4, 9, 10, 11, 12, 13, 14]) (hs := [.no, .no, .no, .cells (cel3 x13), .no, .call [(L3 legend), (di x13)] (vi x14), .no, .no, .no, .cells (cel3 x15), .no, .call [(L3 legend), (di x15)] (vi x16)]) 11 [1, 2, 4, 9, 10, 11, 12, 13, 14, 48, 49, 53, 54] [(1, .d (L3 legend)), (2, .d (L3 inks)), (4, .ref 0 0), (9, .d (L3 x2)), (10, .d (L3 x4)), (11, vi c6), (12, vi c10), (13, vi x14), (14, vi x16)] [mc p_m, .cells [vi p_s.A, vi p_s.B]] [IX3 x2 c6 x13, PCall Try.prog 42 [(L3 legend), (di x13)] (vi x14), IX3 x4 c10 x15, PCall Try.prog 42 [(L3 legend), (di x15)] (vi x16)] (by kernel_rfl) (And.intro (idxOk cel3_len hx13) (And.intro (ct42 hx14) (And.intro (idxOk cel3_len hx15) (ct42 hx16)))) ?_
     obtain ⟨x17, hx17, h⟩ := ob h
     obtain ⟨x18, hx18, h⟩ := ob h
     obtain ⟨x19, hx19, h⟩ := ob h
     refine awp_sdraw tt_ok mixed (ks := [1, 2, 4, 9, 10, 11, 12, 69]) (hs := [.no, .no, .no, .no, .no, .no, .no, .cells (cel3 x17), .no, .no, .no, .cells (cel3 x18), .no, .call [(ma p_m), (di x17), (di x18)] (vb x19)]) 13 [1, 2, 4, 9, 10, 11, 12, 58, 59, 63, 67, 68, 69] [(1, .d (L3 legend)), (2, .d (L3 inks)), (4, .ref 0 0), (9, .d (L3 x2)), (10, .d (L3 x4)), (11, vi c6), (12, vi c10), (69, vb (cond (x14 != x16) x19 false))] [mc p_m, .cells [vi p_s.A, vi p_s.B]] [((x14 != x16) = true → (x14 != x16) = true), ((x14 != x16) = true → (x14 != x16) = true), ((x14 != x16) = true → IX3 inks x14 x17), ((x14 != x16) = true → (x14 != x16) = true), ((x14 != x16) = true → (x14 != x16) = true), ((x14 != x16) = true → (x14 != x16) = true), ((x14 != x16) = true → IX3 inks x16 x18), ((x14 != x16) = true → (x14 != x16) = true), ((x14 != x16) = true → (x14 != x16) = true), ((x14 != x16) = true → (x14 != x16) = true), ((x14 != x16) = true → (x14 != x16) = true), ((x14 != x16) = true → PCall Try.prog 49 [(ma p_m), (di x17), (di x18)] (vb x19)), ((x14 != x16) = true → (x14 != x16) = true)] (by kernel_rfl) (And.intro (id) (And.intro (id) (And.intro ((fun hg => idxOk cel3_len (optG_of hx17 hg))) (And.intro (id) (And.intro (id) (And.intro (id) (And.intro ((fun hg => idxOk cel3_len (optG_of hx18 hg))) (And.intro (id) (And.intro (id) (And.intro (id) (And.intro (id) (And.intro ((fun hg => ct49 (optG_of hx19 hg))) (id))))))))))))) ?_
     refine awp_cond (b := (cond (x14 != x16) x19 false)) (by kernel_rfl) (fun hb20 => ?_) (fun hb20 => ?_)
     ·rw [if_pos hb20] at h
      refine g0 [8] [] [(8, vb true)] [mc p_m, .cells [vi p_s.A, vi p_s.B]] ?_
      obtain rfl := Option.some.inj h
      refine gw 2 [8] [(8, vb true)] [mc p_m, .cells [vi p_s.A, vi p_s.B]] ?_
      exact awp_ret (gs [] [8] OutQ.ret)
     ·rw [if_neg (ntrue hb20)] at h
      refine awp_skip ?_
      show awp ..
      refine x0 [1, 2, 4, 9, 10, 11, 12] [] [(1, .d (L3 legend)), (2, .d (L3 inks)), (4, .ref 0 0), (9, .d (L3 x2)), (10, .d (L3 x4)), (11, vi c6), (12, vi (w64 (c10 + 1)))] [mc p_m, .cells [vi p_s.A, vi p_s.B]] ?_
      exact gn 2 [1, 2, 4, 9, 10, 11, 12] (hrn11 (w64 (c10 + 1)) h)
    ·rw [if_neg (ntrue hb12)] at h
     refine awp_exit ?_
     obtain rfl := Option.some.inj h
     exact gs [0, 1] [1, 2, 4, 9, 10, 11] OutQ.norm
   ·intro e T H hq
    cases o9 with
    | inl ro9 =>
     obtain ⟨rfl, rfl, rfl⟩ := hq
     rw [outK_inl] at h
     obtain rfl := Option.some.inj h
     exact gs [] [8] OutQ.ret
    | inr so9 =>
     obtain ⟨rfl, rfl, rfl⟩ := hq
     rw [outK_inr] at h
     show awp ..
     refine x0 [1, 2, 4, 9, 10, 11] [] [(1, .d (L3 legend)), (2, .d (L3 inks)), (4, .ref 0 0), (9, .d (L3 x2)), (10, .d (L3 x4)), (11, vi (w64 (c6 + 1)))] [mc p_m, .cells [vi p_s.A, vi p_s.B]] ?_
     exact gn 2 [1, 2, 4, 9, 10, 11] (hrn7 (w64 (c6 + 1)) h)
  ·rw [if_neg (ntrue hb8)] at h
   refine awp_exit ?_
   obtain rfl := Option.some.inj h
   exact gs [0, 1] [] OutQ.norm
 ·intro e T H hq
  cases o5 with
  | inl ro5 =>
   obtain ⟨rfl, rfl, rfl⟩ := hq
   rw [outK_inl] at h
   obtain rfl := Option.some.inj h
   exact gm
  | inr so5 =>
   obtain ⟨rfl, rfl, rfl⟩ := hq
   rw [outK_inr] at h
   show awp ..
   refine g0 [8] [] [(8, vb false)] [mc p_m, .cells [vi p_s.A, vi p_s.B]] ?_
   obtain rfl := Option.some.inj h
   refine gw 2 [8] [(8, vb false)] [mc p_m, .cells [vi p_s.A, vi p_s.B]] ?_
   exact awp_ret gm
theorem ct11 {fuel : Nat}  {p_m : S_api_ClMap} {p_x : S_hachurelaw09qPast} {y : (List Int)} {res : Bool} (h : F11 fuel p_m p_x y = some res) : PCall Try.prog 11 [(ma p_m), (.agg [(L65 p_x.Legend), (L65 p_x.Truth)]), (L65 y)] (vb res) := by
 refine PCall.of_awp tt_ok (N := 188) Try.func11 rfl (by kernel_rfl) rfl (Nat.le_of_ble_eq_true rfl) rfl ?_
 unfold F11 at h
 refine g0 [2, 3, 4] [] [(2, .d (L65 y)), (3, .ref 0 0), (4, .ref 1 0)] [mc p_m, .cells [.d (L65 p_x.Legend), .d (L65 p_x.Truth)]] ?_
 refine awp_seq ?_
 obtain ⟨x1, hx1, h⟩ := ob h
 refine gr [2, 3, 4, 22] [.no, .call [(ma p_m)] (vb x1)] [(2, .d (L65 y)), (3, .ref 0 0), (4, .ref 1 0), (22, vb (!x1))] [mc p_m, .cells [.d (L65 p_x.Legend), .d (L65 p_x.Truth)]] [PCall Try.prog 39 [(ma p_m)] (vb x1)] (ct39 hx1) ?_
 refine awp_cond (b := (!x1)) (by kernel_rfl) (fun hb2 => ?_) (fun hb2 => ?_)
 ·rw [if_pos hb2] at h
  obtain ⟨x3, hx3, h⟩ := ob h
  refine gr [6] [.call [] (vb x3)] [(6, vb x3)] [mc p_m, .cells [.d (L65 p_x.Legend), .d (L65 p_x.Truth)]] [PCall Try.prog 30 [] (vb x3)] (ct30 hx3) ?_
  obtain rfl := Option.some.inj h
  refine gw 2 [6] [(6, vb x3)] [mc p_m, .cells [.d (L65 p_x.Legend), .d (L65 p_x.Truth)]] ?_
  exact awp_ret gm
 ·rw [if_neg (ntrue hb2)] at h
  refine awp_skip ?_
  show awp ..
  obtain ⟨x4, hx4, h⟩ := ob h
  refine gr [2, 3, 4, 7] [.no, .no, .no, .call [(ma p_m), (L65 p_x.Legend)] (.d (L3 x4))] [(2, .d (L65 y)), (3, .ref 0 0), (4, .ref 1 0), (7, .d (L3 x4))] [mc p_m, .cells [.d (L65 p_x.Legend), .d (L65 p_x.Truth)]] [PCall Try.prog 40 [(ma p_m), (L65 p_x.Legend)] (.d (L3 x4))] (ct40 hx4) ?_
  refine awp_seq ?_
  obtain ⟨x5, hx5, h⟩ := ob h
  refine gr [2, 3, 4, 7, 31] [.no, .no, .call [(ma p_m), (L3 x4)] (vb x5)] [(2, .d (L65 y)), (3, .ref 0 0), (4, .ref 1 0), (7, .d (L3 x4)), (31, vb (!x5))] [mc p_m, .cells [.d (L65 p_x.Legend), .d (L65 p_x.Truth)]] [PCall Try.prog 41 [(ma p_m), (L3 x4)] (vb x5)] (ct41 hx5) ?_
  refine awp_cond (b := (!x5)) (by kernel_rfl) (fun hb6 => ?_) (fun hb6 => ?_)
  ·rw [if_pos hb6] at h
   obtain ⟨x7, hx7, h⟩ := ob h
   refine gr [6] [.call [] (vb x7)] [(6, vb x7)] [mc p_m, .cells [.d (L65 p_x.Legend), .d (L65 p_x.Truth)]] [PCall Try.prog 30 [] (vb x7)] (ct30 hx7) ?_
   obtain rfl := Option.some.inj h
   refine gw 2 [6] [(6, vb x7)] [mc p_m, .cells [.d (L65 p_x.Legend), .d (L65 p_x.Truth)]] ?_
   exact awp_ret gm
  ·rw [if_neg (ntrue hb6)] at h
   refine awp_skip ?_
   show awp ..
   obtain ⟨x8, hx8, h⟩ := ob h
   refine gr [3, 4, 7, 8] [.no, .no, .call [(ma p_m), (L65 y)] (.d (L3 x8))] [(3, .ref 0 0), (4, .ref 1 0), (7, .d (L3 x4)), (8, .d (L3 x8))] [mc p_m, .cells [.d (L65 p_x.Legend), .d (L65 p_x.Truth)]] [PCall Try.prog 50 [(ma p_m), (L65 y)] (.d (L3 x8))] (ct50 hx8) ?_
   obtain ⟨x9, hx9, h⟩ := ob h
   refine gr [3, 4, 7, 8, 9, 10] [.no, .no, .no, .call [(ma p_m), (L3 x4), (L3 x8)] (.tup [.d (L3 x9.1), vi x9.2])] [(3, .ref 0 0), (4, .ref 1 0), (7, .d (L3 x4)), (8, .d (L3 x8)), (9, .d (L3 x9.1)), (10, vi x9.2)] [mc p_m, .cells [.d (L65 p_x.Legend), .d (L65 p_x.Truth)]] [PCall Try.prog 33 [(ma p_m), (L3 x4), (L3 x8)] (.tup [.d (L3 x9.1), vi x9.2])] (ct33 hx9) ?_
   obtain ⟨x10, hx10, h⟩ := ob h
   refine gr [3, 4, 7, 8, 9, 10, 11, 12] [.no, .no, .call [(ma p_m), (L3 x4)] (.tup [.d (L51 x10.1), vi x10.2])] [(3, .ref 0 0), (4, .ref 1 0), (7, .d (L3 x4)), (8, .d (L3 x8)), (9, .d (L3 x9.1)), (10, vi x9.2), (11, .d (L51 x10.1)), (12, vi x10.2)] [mc p_m, .cells [.d (L65 p_x.Legend), .d (L65 p_x.Truth)]] [PCall Try.prog 27 [(ma p_m), (L3 x4)] (.tup [.d (L51 x10.1), vi x10.2])] (ct27 hx10) ?_
   refine awp_seq (gr [3, 4, 7, 8, 9, 11, 54] [] [(3, .ref 0 0), (4, .ref 1 0), (7, .d (L3 x4)), (8, .d (L3 x8)), (9, .d (L3 x9.1)), (11, .d (L51 x10.1)), (54, vb (cond (x9.2 != 0) true (x10.2 != 0)))] [mc p_m, .cells [.d (L65 p_x.Legend), .d (L65 p_x.Truth)]] [((!(x9.2 != 0)) = true → (!(x9.2 != 0)) = true), ((x9.2 != 0) = false → (!(x9.2 != 0)) = true)] (And.intro (id) (not_of)) ?_)
   refine awp_cond (b := (cond (x9.2 != 0) true (x10.2 != 0))) (by kernel_rfl) (fun hb11 => ?_) (fun hb11 => ?_)
   ·rw [if_pos hb11] at h
    refine g0 [6] [] [(6, vb false)] [mc p_m, .cells [.d (L65 p_x.Legend), .d (L65 p_x.Truth)]] ?_
    obtain rfl := Option.some.inj h
    refine gw 2 [6] [(6, vb false)] [mc p_m, .cells [.d (L65 p_x.Legend), .d (L65 p_x.Truth)]] ?_
    exact awp_ret gm
   ·rw [if_neg (ntrue hb11)] at h
    refine awp_skip ?_
    show awp ..
    refine awp_seq (g0 [3, 4, 7, 8, 9, 11, 13] [] [(3, .ref 0 0), (4, .ref 1 0), (7, .d (L3 x4)), (8, .d (L3 x8)), (9, .d (L3 x9.1)), (11, .d (L51 x10.1)), (13, vi 0)] [mc p_m, .cells [.d (L65 p_x.Legend), .d (L65 p_x.Truth)]] ?_)
    obtain ⟨o12, ho12, h⟩ := ob h
    refine awp_cut1 (OutQ (fun (ro12 : Bool) => [(6, vb ro12)]) (fun (ro12 : Bool) => []) (fun (so12 : Unit) => [(3, .ref 0 0), (7, .d (L3 x4)), (8, .d (L3 x8)), (9, .d (L3 x9.1)), (11, .d (L51 x10.1))]) (fun (so12 : Unit) => [mc p_m, .cells [.d (L65 p_x.Legend), .d (L65 p_x.Truth)]]) o12) ?_ ?_
    ·clear h
     have h := ho12
     clear ho12
     refine awp_selQ (gw 2 [3, 4, 7, 8, 9, 11, 13] [(3, .ref 0 0), (4, .ref 1 0), (7, .d (L3 x4)), (8, .d (L3 x8)), (9, .d (L3 x9.1)), (11, .d (L51 x10.1)), (13, vi 0)] [mc p_m, .cells [.d (L65 p_x.Legend), .d (L65 p_x.Truth)]] ?_)
     refine awp_block (awp_loop (n := fuel) ?_)
     refine awpN_ind (fun n (c13 : Int) => F11L1 fuel p_m p_x x4 x8 x9 n c13) o12 (fun (c13 : Int) => [(3, .ref 0 0), (4, .ref 1 0), (7, .d (L3 x4)), (8, .d (L3 x8)), (9, .d (L3 x9.1)), (11, .d (L51 x10.1)), (13, vi c13)]) (fun (c13 : Int) => [mc p_m, .cells [.d (L65 p_x.Legend), .d (L65 p_x.Truth)]]) (fun _ => rfl) ?_ fuel 0 h
     clear h
     intro n14 c13 h hrn14
     change F11L1 fuel p_m p_x x4 x8 x9 (n14 + 1) c13 = some o12 at h
     rw [F11L1] at h
     refine awp_seq (g0 [3, 4, 7, 8, 9, 11, 13, 59] [] [(3, .ref 0 0), (4, .ref 1 0), (7, .d (L3 x4)), (8, .d (L3 x8)), (9, .d (L3 x9.1)), (11, .d (L51 x10.1)), (13, vi c13), (59, vb (decide (c13 < (p_m.Sides.length : Int))))] [mc p_m, .cells [.d (L65 p_x.Legend), .d (L65 p_x.Truth)]] ?_)
     refine awp_cond (b := (decide (c13 < (p_m.Sides.length : Int)))) (by kernel_rfl) (fun hb15 => ?_) (fun hb15 => ?_)
     ·rw [if_pos hb15] at h
      refine awp_skip ?_
      show awp ..
      refine awp_seq (awp_block ?_)
      obtain ⟨x16, hx16, h⟩ := ob h
      refine gr [3, 4, 7, 8, 9, 11, 13, 14] [.no, .no, .no, .cells (cel51 x16)] [(3, .ref 0 0), (4, .ref 1 0), (7, .d (L3 x4)), (8, .d (L3 x8)), (9, .d (L3 x9.1)), (11, .d (L51 x10.1)), (13, vi c13), (14, .ref 2 0)] [mc p_m, .cells [.d (L65 p_x.Legend), .d (L65 p_x.Truth)], .cells [vi x16.A, vi x16.B]] [IX51 p_m.Sides c13 x16] (idxOk cel51_len hx16) ?_
      obtain ⟨x17, hx17, h⟩ := ob h
      obtain ⟨x18, hx18, h⟩ := ob h
      obtain ⟨x19, hx19, h⟩ := ob h
      obtain ⟨x20, hx20, h⟩ := ob h
      refine awp_sdraw tt_ok mixed (ks := [3, 4, 7, 8, 9, 11, 13, 14, 15]) (hs := [.no, .no, .no, .no, .no, .cells (cel60 x17), .no, .no, .no, .no, .no, .call [(L65 p_x.Truth), (di x16.A)] (vi x18), .call [(.agg [(di x17.Lo), (di x17.Hi)]), (di x18)] (vi x19), .call [(L3 x4), (di x19)] (vi x20)]) 13 [3, 4, 7, 8, 9, 11, 13, 14, 15, 67, 79, 80] [(3, .ref 0 0), (4, .ref 1 0), (7, .d (L3 x4)), (8, .d (L3 x8)), (9, .d (L3 x9.1)), (11, .d (L51 x10.1)), (13, vi c13), (14, .ref 2 0), (15, vi x20)] [mc p_m, .cells [.d (L65 p_x.Legend), .d (L65 p_x.Truth)], .cells [vi x16.A, vi x16.B]] [IX60 p_m.Heights x16.A x17, PCall Try.prog 44 [(L65 p_x.Truth), (di x16.A)] (vi x18), PCall Try.prog 43 [(.agg [(di x17.Lo), (di x17.Hi)]), (di x18)] (vi x19), PCall Try.prog 42 [(L3 x4), (di x19)] (vi x20)] (by kernel_rfl) (And.intro (idxOk cel60_len hx17) (And.intro (ct44 hx18) (And.intro (ct43 hx19) (ct42 hx20)))) ?_
      obtain ⟨x21, hx21, h⟩ := ob h
      obtain ⟨x22, hx22, h⟩ := ob h
      obtain ⟨x23, hx23, h⟩ := ob h
      obtain ⟨x24, hx24, h⟩ := ob h
      refine awp_sdraw tt_ok mixed (ks := [3, 4, 7, 8, 9, 11, 13, 14, 15, 16]) (hs := [.no, .no, .no, .no, .no, .cells (cel60 x21), .no, .no, .no, .no, .no, .call [(L65 p_x.Truth), (di x16.B)] (vi x22), .call [(.agg [(di x21.Lo), (di x21.Hi)]), (di x22)] (vi x23), .call [(L3 x4), (di x23)] (vi x24)]) 13 [3, 4, 7, 8, 9, 11, 13, 14, 15, 16, 81, 93, 94] [(3, .ref 0 0), (4, .ref 1 0), (7, .d (L3 x4)), (8, .d (L3 x8)), (9, .d (L3 x9.1)), (11, .d (L51 x10.1)), (13, vi c13), (14, .ref 2 0), (15, vi x20), (16, vi x24)] [mc p_m, .cells [.d (L65 p_x.Legend), .d (L65 p_x.Truth)], .cells [vi x16.A, vi x16.B]] [IX60 p_m.Heights x16.B x21, PCall Try.prog 44 [(L65 p_x.Truth), (di x16.B)] (vi x22), PCall Try.prog 43 [(.agg [(di x21.Lo), (di x21.Hi)]), (di x22)] (vi x23), PCall Try.prog 42 [(L3 x4), (di x23)] (vi x24)] (by kernel_rfl) (And.intro (idxOk cel60_len hx21) (And.intro (ct44 hx22) (And.intro (ct43 hx23) (ct42 hx24)))) ?_
      obtain ⟨x25, hx25, h⟩ := ob h
      refine gr [3, 4, 7, 8, 9, 11, 13, 14, 15, 16, 17] [.no, .no, .call [(L3 x9.1), (di c13)] (vb x25)] [(3, .ref 0 0), (4, .ref 1 0), (7, .d (L3 x4)), (8, .d (L3 x8)), (9, .d (L3 x9.1)), (11, .d (L51 x10.1)), (13, vi c13), (14, .ref 2 0), (15, vi x20), (16, vi x24), (17, vb x25)] [mc p_m, .cells [.d (L65 p_x.Legend), .d (L65 p_x.Truth)], .cells [vi x16.A, vi x16.B]] [PCall Try.prog 46 [(L3 x9.1), (di c13)] (vb x25)] (ct46 hx25) ?_
      refine awp_seq ?_
      obtain ⟨x26, hx26, h⟩ := ob h
      obtain ⟨x27, hx27, h⟩ := ob h
      obtain ⟨x28, hx28, h⟩ := ob h
      refine awp_sdraw tt_ok mixed (ks := [3, 4, 7, 8, 9, 11, 13, 14, 17, 116]) (hs := [.no, .no, .no, .no, .no, .no, .no, .no, .no, .no, .no, .cells (cel3 x26), .no, .no, .no, .cells (cel3 x27), .no, .call [(ma p_m), (di x26), (di x27)] (vb x28)]) 17 [3, 4, 7, 8, 9, 11, 13, 14, 17, 105, 106, 110, 114, 115, 116] [(3, .ref 0 0), (4, .ref 1 0), (7, .d (L3 x4)), (8, .d (L3 x8)), (9, .d (L3 x9.1)), (11, .d (L51 x10.1)), (13, vi c13), (14, .ref 2 0), (17, vb x25), (116, vb (cond (cond (!x25) (x20 != x24) false) x28 false))] [mc p_m, .cells [.d (L65 p_x.Legend), .d (L65 p_x.Truth)], .cells [vi x16.A, vi x16.B]] [((!x25) = true → (!x25) = true), ((!x25) = true → (!x25) = true), ((!x25) = true → (!x25) = true), ((cond (!x25) (x20 != x24) false) = true → (cond (!x25) (x20 != x24) false) = true), ((cond (!x25) (x20 != x24) false) = true → (cond (!x25) (x20 != x24) false) = true), ((cond (!x25) (x20 != x24) false) = true → IX3 x8 x20 x26), ((cond (!x25) (x20 != x24) false) = true → (cond (!x25) (x20 != x24) false) = true), ((cond (!x25) (x20 != x24) false) = true → (cond (!x25) (x20 != x24) false) = true), ((cond (!x25) (x20 != x24) false) = true → (cond (!x25) (x20 != x24) false) = true), ((cond (!x25) (x20 != x24) false) = true → IX3 x8 x24 x27), ((cond (!x25) (x20 != x24) false) = true → (cond (!x25) (x20 != x24) false) = true), ((cond (!x25) (x20 != x24) false) = true → (cond (!x25) (x20 != x24) false) = true), ((cond (!x25) (x20 != x24) false) = true → (cond (!x25) (x20 != x24) false) = true), ((cond (!x25) (x20 != x24) false) = true → (cond (!x25) (x20 != x24) false) = true), ((cond (!x25) (x20 != x24) false) = true → PCall Try.prog 49 [(ma p_m), (di x26), (di x27)] (vb x28)), ((cond (!x25) (x20 != x24) false) = true → (cond (!x25) (x20 != x24) false) = true)] (by kernel_rfl) (And.intro (id) (And.intro (id) (And.intro (id) (And.intro (id) (And.intro (id) (And.intro ((fun hg => idxOk cel3_len (optG_of hx26 hg))) (And.intro (id) (And.intro (id) (And.intro (id) (And.intro ((fun hg => idxOk cel3_len (optG_of hx27 hg))) (And.intro (id) (And.intro (id) (And.intro (id) (And.intro (id) (And.intro ((fun hg => ct49 (optG_of hx28 hg))) (id)))))))))))))))) ?_
      refine awp_cond (b := (cond (cond (!x25) (x20 != x24) false) x28 false)) (by kernel_rfl) (fun hb29 => ?_) (fun hb29 => ?_)
      ·rw [if_pos hb29] at h
       refine g0 [6] [] [(6, vb false)] [mc p_m, .cells [.d (L65 p_x.Legend), .d (L65 p_x.Truth)], .cells [vi x16.A, vi x16.B]] ?_
       obtain rfl := Option.some.inj h
       refine gw 3 [6] [(6, vb false)] [mc p_m, .cells [.d (L65 p_x.Legend), .d (L65 p_x.Truth)], .cells [vi x16.A, vi x16.B]] ?_
       exact awp_ret (gs [] [6] OutQ.ret)
      ·rw [if_neg (ntrue hb29)] at h
       refine awp_skip ?_
       show awp ..
       obtain ⟨x30, hx30, h⟩ := ob h
       refine gr [3, 4, 7, 8, 9, 11, 13, 123] [.no, .no, .no, .no, .no, .call [(ma p_m), (L3 x4), (L3 x8), (.agg [(di x16.A), (di x16.B)])] (vb x30)] [(3, .ref 0 0), (4, .ref 1 0), (7, .d (L3 x4)), (8, .d (L3 x8)), (9, .d (L3 x9.1)), (11, .d (L51 x10.1)), (13, vi c13), (123, vb (!(x25 == x30)))] [mc p_m, .cells [.d (L65 p_x.Legend), .d (L65 p_x.Truth)], .cells [vi x16.A, vi x16.B]] [PCall Try.prog 51 [(ma p_m), (L3 x4), (L3 x8), (.agg [(di x16.A), (di x16.B)])] (vb x30)] (ct51 hx30) ?_
       refine awp_cond (b := (!(x25 == x30))) (by kernel_rfl) (fun hb31 => ?_) (fun hb31 => ?_)
       ·rw [if_pos hb31] at h
        refine g0 [6] [] [(6, vb false)] [mc p_m, .cells [.d (L65 p_x.Legend), .d (L65 p_x.Truth)], .cells [vi x16.A, vi x16.B]] ?_
        obtain rfl := Option.some.inj h
        refine gw 3 [6] [(6, vb false)] [mc p_m, .cells [.d (L65 p_x.Legend), .d (L65 p_x.Truth)], .cells [vi x16.A, vi x16.B]] ?_
        exact awp_ret (gs [] [6] OutQ.ret)
       ·rw [if_neg (ntrue hb31)] at h
        refine awp_skip ?_
        show awp ..
        refine x0 [3, 4, 7, 8, 9, 11, 13] [] [(3, .ref 0 0), (4, .ref 1 0), (7, .d (L3 x4)), (8, .d (L3 x8)), (9, .d (L3 x9.1)), (11, .d (L51 x10.1)), (13, vi (w64 (c13 + 1)))] [mc p_m, .cells [.d (L65 p_x.Legend), .d (L65 p_x.Truth)], .cells [vi x16.A, vi x16.B]] ?_
        exact gn 2 [3, 4, 7, 8, 9, 11, 13] (hrn14 (w64 (c13 + 1)) h)
     ·rw [if_neg (ntrue hb15)] at h
      refine awp_exit ?_
      obtain rfl := Option.some.inj h
      exact gs [0, 1] [3, 7, 8, 9, 11] OutQ.norm
    ·intro e T H hq
     cases o12 with
     | inl ro12 =>
      obtain ⟨rfl, rfl, rfl⟩ := hq
      rw [outK_inl] at h
      obtain rfl := Option.some.inj h
      exact gm
     | inr so12 =>
      obtain ⟨rfl, rfl, rfl⟩ := hq
      rw [outK_inr] at h
      show awp ..
      refine g0 [3, 7, 8, 9, 11, 18] [] [(3, .ref 0 0), (7, .d (L3 x4)), (8, .d (L3 x8)), (9, .d (L3 x9.1)), (11, .d (L51 x10.1)), (18, vb false)] [mc p_m, .cells [.d (L65 p_x.Legend), .d (L65 p_x.Truth)]] ?_
      refine awp_seq (g0 [3, 7, 8, 9, 11, 18, 19] [] [(3, .ref 0 0), (7, .d (L3 x4)), (8, .d (L3 x8)), (9, .d (L3 x9.1)), (11, .d (L51 x10.1)), (18, vb false), (19, vi 0)] [mc p_m, .cells [.d (L65 p_x.Legend), .d (L65 p_x.Truth)]] ?_)
      obtain ⟨o32, ho32, h⟩ := ob h
      refine awp_cut1 (OutQ (fun (ro32 : Bool) => [(6, vb ro32)]) (fun (ro32 : Bool) => []) (fun (so32 : Bool) => [(9, .d (L3 x9.1)), (18, vb so32)]) (fun (so32 : Bool) => [mc p_m, .cells [.d (L65 p_x.Legend), .d (L65 p_x.Truth)]]) o32) ?_ ?_
      ·clear h
       have h := ho32
       clear ho32
       refine awp_selQ (gw 2 [3, 7, 8, 9, 11, 18, 19] [(3, .ref 0 0), (7, .d (L3 x4)), (8, .d (L3 x8)), (9, .d (L3 x9.1)), (11, .d (L51 x10.1)), (18, vb false), (19, vi 0)] [mc p_m, .cells [.d (L65 p_x.Legend), .d (L65 p_x.Truth)]] ?_)
       refine awp_block (awp_loop (n := fuel) ?_)
       refine awpN_ind (fun n (c33 : Bool × Int) => F11L2 fuel p_m x4 x8 x10 n c33) o32 (fun (c33 : Bool × Int) => [(3, .ref 0 0), (7, .d (L3 x4)), (8, .d (L3 x8)), (9, .d (L3 x9.1)), (11, .d (L51 x10.1)), (18, vb c33.1), (19, vi c33.2)]) (fun (c33 : Bool × Int) => [mc p_m, .cells [.d (L65 p_x.Legend), .d (L65 p_x.Truth)]]) (fun _ => rfl) ?_ fuel (false, 0) h
       clear h
       intro n34 c33 h hrn34
       change F11L2 fuel p_m x4 x8 x10 (n34 + 1) c33 = some o32 at h
       rw [F11L2] at h
       refine awp_seq (g0 [3, 7, 8, 9, 11, 18, 19, 127] [] [(3, .ref 0 0), (7, .d (L3 x4)), (8, .d (L3 x8)), (9, .d (L3 x9.1)), (11, .d (L51 x10.1)), (18, vb c33.1), (19, vi c33.2), (127, vb (decide (c33.2 < (x10.1.length : Int))))] [mc p_m, .cells [.d (L65 p_x.Legend), .d (L65 p_x.Truth)]] ?_)
       refine awp_cond (b := (decide (c33.2 < (x10.1.length : Int)))) (by kernel_rfl) (fun hb35 => ?_) (fun hb35 => ?_)
       ·rw [if_pos hb35] at h
        refine awp_skip ?_
        show awp ..
        refine awp_seq (awp_block ?_)
        refine awp_seq ?_
        obtain ⟨x36, hx36, h⟩ := ob h
        obtain ⟨x37, hx37, h⟩ := ob h
        obtain ⟨x38, hx38, h⟩ := ob h
        obtain ⟨x39, hx39, h⟩ := ob h
        refine awp_sdraw tt_ok mixed (ks := [3, 7, 8, 9, 11, 18, 19, 158]) (hs := [.no, .no, .cells (cel51 x36), .no, .no, .no, .no, .no, .no, .cells (cel51 x37), .no, .no, .no, .no, .cells (cel51 x38), .no, .no, .no, .no, .no, .no, .no, .cells (cel51 x39)]) 27 [3, 7, 8, 9, 11, 18, 19, 149, 154, 156, 157, 158] [(3, .ref 0 0), (7, .d (L3 x4)), (8, .d (L3 x8)), (9, .d (L3 x9.1)), (11, .d (L51 x10.1)), (18, vb c33.1), (19, vi c33.2), (158, vb (cond (cond (decide (x36.A < 0)) true (decide (x37.A ≥ x38.B))) true (decide (x39.B > (x4.length : Int)))))] [mc p_m, .cells [.d (L65 p_x.Legend), .d (L65 p_x.Truth)]] [IX51 x10.1 c33.2 x36, ((!(decide (x36.A < 0))) = true → (!(decide (x36.A < 0))) = true), ((!(decide (x36.A < 0))) = true → (!(decide (x36.A < 0))) = true), ((!(decide (x36.A < 0))) = true → IX51 x10.1 c33.2 x37), ((!(decide (x36.A < 0))) = true → (!(decide (x36.A < 0))) = true), ((!(decide (x36.A < 0))) = true → (!(decide (x36.A < 0))) = true), ((!(decide (x36.A < 0))) = true → (!(decide (x36.A < 0))) = true), ((!(decide (x36.A < 0))) = true → (!(decide (x36.A < 0))) = true), ((!(decide (x36.A < 0))) = true → IX51 x10.1 c33.2 x38), ((!(decide (x36.A < 0))) = true → (!(decide (x36.A < 0))) = true), ((!(decide (x36.A < 0))) = true → (!(decide (x36.A < 0))) = true), ((!(decide (x36.A < 0))) = true → (!(decide (x36.A < 0))) = true), ((!(decide (x36.A < 0))) = true → (!(decide (x36.A < 0))) = true), ((decide (x36.A < 0)) = false → (!(decide (x36.A < 0))) = true), ((!(cond (decide (x36.A < 0)) true (decide (x37.A ≥ x38.B)))) = true → (!(cond (decide (x36.A < 0)) true (decide (x37.A ≥ x38.B)))) = true), ((!(cond (decide (x36.A < 0)) true (decide (x37.A ≥ x38.B)))) = true → (!(cond (decide (x36.A < 0)) true (decide (x37.A ≥ x38.B)))) = true), ((!(cond (decide (x36.A < 0)) true (decide (x37.A ≥ x38.B)))) = true → IX51 x10.1 c33.2 x39), ((!(cond (decide (x36.A < 0)) true (decide (x37.A ≥ x38.B)))) = true → (!(cond (decide (x36.A < 0)) true (decide (x37.A ≥ x38.B)))) = true), ((!(cond (decide (x36.A < 0)) true (decide (x37.A ≥ x38.B)))) = true → (!(cond (decide (x36.A < 0)) true (decide (x37.A ≥ x38.B)))) = true), ((!(cond (decide (x36.A < 0)) true (decide (x37.A ≥ x38.B)))) = true → (!(cond (decide (x36.A < 0)) true (decide (x37.A ≥ x38.B)))) = true), ((!(cond (decide (x36.A < 0)) true (decide (x37.A ≥ x38.B)))) = true → (!(cond (decide (x36.A < 0)) true (decide (x37.A ≥ x38.B)))) = true), ((!(cond (decide (x36.A < 0)) true (decide (x37.A ≥ x38.B)))) = true → (!(cond (decide (x36.A < 0)) true (decide (x37.A ≥ x38.B)))) = true), ((cond (decide (x36.A < 0)) true (decide (x37.A ≥ x38.B))) = false → (!(cond (decide (x36.A < 0)) true (decide (x37.A ≥ x38.B)))) = true)] (by kernel_rfl) (And.intro (idxOk cel51_len hx36) (And.intro (id) (And.intro (id) (And.intro ((fun hg => idxOk cel51_len (optG_of hx37 hg))) (And.intro (id) (And.intro (id) (And.intro (id) (And.intro (id) (And.intro ((fun hg => idxOk cel51_len (optG_of hx38 hg))) (And.intro (id) (And.intro (id) (And.intro (id) (And.intro (id) (And.intro (not_of) (And.intro (id) (And.intro (id) (And.intro ((fun hg => idxOk cel51_len (optG_of hx39 hg))) (And.intro (id) (And.intro (id) (And.intro (id) (And.intro (id) (And.intro (id) (not_of))))))))))))))))))))))) ?_
        refine awp_cond (b := (cond (cond (decide (x36.A < 0)) true (decide (x37.A ≥ x38.B))) true (decide (x39.B > (x4.length : Int))))) (by kernel_rfl) (fun hb40 => ?_) (fun hb40 => ?_)
        ·rw [if_pos hb40] at h
         refine g0 [6] [] [(6, vb false)] [mc p_m, .cells [.d (L65 p_x.Legend), .d (L65 p_x.Truth)]] ?_
         obtain rfl := Option.some.inj h
         refine gw 2 [6] [(6, vb false)] [mc p_m, .cells [.d (L65 p_x.Legend), .d (L65 p_x.Truth)]] ?_
         exact awp_ret (gs [] [6] OutQ.ret)
        ·rw [if_neg (ntrue hb40)] at h
         refine awp_skip ?_
         show awp ..
         obtain ⟨x41, hx41, h⟩ := ob h
         obtain ⟨x42, hx42, h⟩ := ob h
         obtain ⟨x43, hx43, h⟩ := ob h
         obtain ⟨x44, hx44, h⟩ := ob h
         obtain ⟨x45, hx45, h⟩ := ob h
         refine awp_draw (T' := [(3, .ref 0 0), (7, .d (L3 x4)), (8, .d (L3 x8)), (9, .d (L3 x9.1)), (11, .d (L51 x10.1)), (18, vb (cond c33.1 true x45)), (19, vi c33.2)]) (H' := [mc p_m, .cells [.d (L65 p_x.Legend), .d (L65 p_x.Truth)]]) (ps := [((!c33.1) = true → (!c33.1) = true), ((!c33.1) = true → (!c33.1) = true), ((!c33.1) = true → IX51 x10.1 c33.2 x41), ((!c33.1) = true → (!c33.1) = true), ((!c33.1) = true → (!c33.1) = true), ((!c33.1) = true → (!c33.1) = true), ((!c33.1) = true → (!c33.1) = true), ((!c33.1) = true → IX3 x8 x41.A x42), ((!c33.1) = true → (!c33.1) = true), ((!c33.1) = true → (!c33.1) = true), ((!c33.1) = true → (!c33.1) = true), ((!c33.1) = true → IX51 x10.1 c33.2 x43), ((!c33.1) = true → (!c33.1) = true), ((!c33.1) = true → (!c33.1) = true), ((!c33.1) = true → (!c33.1) = true), ((!c33.1) = true → (!c33.1) = true), ((!c33.1) = true → IX3 x8 x43.B x44), ((!c33.1) = true → (!c33.1) = true), ((!c33.1) = true → (!c33.1) = true), ((!c33.1) = true → (!c33.1) = true), ((!c33.1) = true → (!c33.1) = true), ((!c33.1) = true → PCall Try.prog 49 [(ma p_m), (di x42), (di x44)] (vb x45)), (c33.1 = false → (!c33.1) = true)]) tt_ok mixed (ks := [3, 7, 8, 9, 11, 18, 19]) (hs := [.no, .no, .no, .no, .no, .no, .cells (cel51 x41), .no, .no, .cells (cel3 x42), .no, .no, .no, .no, .cells (cel51 x43), .no, .no, .cells (cel3 x44), .no, .call [(ma p_m), (di x42), (di x44)] (vb x45)]) (m := 19) (mid := [3, 7, 8, 9, 11, 18, 19, 160, 161, 169, 177, 178, 179]) (by kernel_rfl) (And.intro (id) (And.intro (id) (And.intro ((fun hg => idxOk cel51_len (optG_of hx41 hg))) (And.intro (id) (And.intro (id) (And.intro (id) (And.intro (id) (And.intro ((fun hg => idxOk cel3_len (optG_of hx42 hg))) (And.intro (id) (And.intro (id) (And.intro (id) (And.intro ((fun hg => idxOk cel51_len (optG_of hx43 hg))) (And.intro (id) (And.intro (id) (And.intro (id) (And.intro (id) (And.intro ((fun hg => idxOk cel3_len (optG_of hx44 hg))) (And.intro (id) (And.intro (id) (And.intro (id) (And.intro (id) (And.intro ((fun hg => ct49 (optG_of hx45 hg))) (not_of))))))))))))))))))))))) ?_
         show awp ..
         refine x0 [3, 7, 8, 9, 11, 18, 19] [] [(3, .ref 0 0), (7, .d (L3 x4)), (8, .d (L3 x8)), (9, .d (L3 x9.1)), (11, .d (L51 x10.1)), (18, vb (cond c33.1 true x45)), (19, vi (w64 (c33.2 + 1)))] [mc p_m, .cells [.d (L65 p_x.Legend), .d (L65 p_x.Truth)]] ?_
         exact gn 2 [3, 7, 8, 9, 11, 18, 19] (hrn34 ((cond c33.1 true x45), (w64 (c33.2 + 1))) h)
       ·rw [if_neg (ntrue hb35)] at h
        refine awp_exit ?_
        obtain rfl := Option.some.inj h
        exact gs [0, 1] [9, 18] OutQ.norm
      ·intro e T H hq
       cases o32 with
       | inl ro32 =>
        obtain ⟨rfl, rfl, rfl⟩ := hq
        rw [outK_inl] at h
        obtain rfl := Option.some.inj h
        exact gm
       | inr so32 =>
        obtain ⟨rfl, rfl, rfl⟩ := hq
        rw [outK_inr] at h
        show awp ..
        obtain ⟨x46, hx46, h⟩ := ob h
        refine gr [6] [.no, .no, .no, .no, .no, .no, .call [] (vb x46)] [(6, vb (cond (so32 == (decide ((x9.1.length : Int) > 0))) x46 false))] [mc p_m, .cells [.d (L65 p_x.Legend), .d (L65 p_x.Truth)]] [((so32 == (decide ((x9.1.length : Int) > 0))) = true → PCall Try.prog 30 [] (vb x46)), ((so32 == (decide ((x9.1.length : Int) > 0))) = true → (so32 == (decide ((x9.1.length : Int) > 0))) = true)] (And.intro ((fun hg => ct30 (optG_of hx46 hg))) (id)) ?_
        obtain rfl := Option.some.inj h
        refine gw 2 [6] [(6, vb (cond (so32 == (decide ((x9.1.length : Int) > 0))) x46 false))] [mc p_m, .cells [.d (L65 p_x.Legend), .d (L65 p_x.Truth)]] ?_
        exact awp_ret gm
end Go.Proofs.Ytpkhbbboedoldaa
