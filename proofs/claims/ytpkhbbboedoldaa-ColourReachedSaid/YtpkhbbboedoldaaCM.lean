/- That functions of the seat compute this. Printed by a program of mine. -/
import Derived.Test.YtpkhbbboedoldaaS
import Derived.Test.YtpkhbbboedoldaaCE
import Derived.Test.YtpkhbbboedoldaaCP
import Derived.Test.YtpkhbbboedoldaaDM
namespace Go.Proofs.Ytpkhbbboedoldaa
open Go Go.Sx
set_option maxRecDepth 100000
set_option linter.unusedVariables false
theorem ct72v2  {p_c : (Option S_colour_chart)} {p_s : S_api_ClPair} {res : (Option S_colour_chart) × Int × Int} (h : F72v2 p_c p_s = some res) : HCall Try.prog 72 [.d (OP89 p_c), .d (.agg [(di p_s.A), (di p_s.B)])] [] (.fn (.func 88) [] [.ref 0 0, .ref 1 0]) [.cells [.d (OP89 res.1)], .cells [vi res.2.1, vi res.2.2]] := by
 refine HCall.of_awpS tt_ok (N := 6) (fl := 0) Try.func72 rfl (by kernel_rfl) rfl rfl (Nat.le_of_ble_eq_true rfl) ?_
 unfold F72v2 at h
 refine g0 [2, 3] [] [(2, .ref 0 0), (3, .ref 1 0)] [.cells [.d (OP89 p_c)], .cells [vi p_s.A, vi p_s.B]] ?_
 refine g0 [4] [] [(4, .fn (.func 88) [] [.ref 0 0, .ref 1 0])] [.cells [.d (OP89 p_c)], .cells [vi p_s.A, vi p_s.B]] ?_
 obtain rfl := Option.some.inj h
 refine gw 2 [4] [(4, .fn (.func 88) [] [.ref 0 0, .ref 1 0])] [.cells [.d (OP89 p_c)], .cells [vi p_s.A, vi p_s.B]] ?_
 exact awp_ret (main_retS [0, 1] (.fn (.func 88) [] [.ref 0 0, .ref 1 0]) (by kernel_rfl) (by kernel_rfl) (by kernel_rfl) (by kernel_rfl))
theorem ct33r  {y1 : Int} {y2 : Int} {b1x0 : List Int} {b2x0 : (Option S_colour_chart)} {b3x0 : Bool} {res : Bool} (h : F33r y1 y2 b1x0 b2x0 b3x0 = some res) : YCall Try.prog [.yld 0, vi y1, vi y2] [.loop (some none) [48, 49] asn33x0 bdy33x0 70 [(5, .ref 1 0), (8, .ref 2 0), (11, .ref 3 0)], .cells [.d (L3 b1x0)], .cells [.d (OP89 b2x0)], .cells [vb b3x0]] (vb true) [.loop (some none) [48, 49] asn33x0 bdy33x0 70 [(5, .ref 1 0), (8, .ref 2 0), (11, .ref 3 0)], .cells [.d (L3 b1x0)], .cells [.d (OP89 b2x0)], .cells [vb res]] := by
 refine YCall.of_awp (N := 70) (k := 0) (ps := [48, 49]) (asg := asn33x0) (bd := bdy33x0) (Tl := [(5, .ref 1 0), (8, .ref 2 0), (11, .ref 3 0)]) rfl (by kernel_rfl) rfl ?_
 refine awp_eq (T' := [(49, vi y2), (48, vi y1), (5, .ref 1 0), (8, .ref 2 0), (11, .ref 3 0)]) (H' := [.loop (some none) [48, 49] asn33x0 bdy33x0 70 [(5, .ref 1 0), (8, .ref 2 0), (11, .ref 3 0)], .cells [.d (L3 b1x0)], .cells [.d (OP89 b2x0)], .cells [vb b3x0]]) (by kernel_rfl) rfl ?_
 change awp _ _ _ _ asn33x0 _ _ _
 unfold F33r at h
 refine g0 [5, 8, 11, 12, 49] [] [(5, .ref 1 0), (8, .ref 2 0), (11, .ref 3 0), (12, vi y1), (49, vi y2)] [.loop (some none) [48, 49] asn33x0 bdy33x0 70 [(5, .ref 1 0), (8, .ref 2 0), (11, .ref 3 0)], .cells [.d (L3 b1x0)], .cells [.d (OP89 b2x0)], .cells [vb b3x0]] ?_
 refine x0 [5, 8, 11, 12, 13] [] [(5, .ref 1 0), (8, .ref 2 0), (11, .ref 3 0), (12, vi y1), (13, vi y2)] [.loop (some none) [48, 49] asn33x0 bdy33x0 70 [(5, .ref 1 0), (8, .ref 2 0), (11, .ref 3 0)], .cells [.d (L3 b1x0)], .cells [.d (OP89 b2x0)], .cells [vb b3x0]] ?_
 refine ⟨rfl, by kernel_rfl, ?_⟩
 refine awp_eq (T' := [(5, .ref 1 0), (8, .ref 2 0), (11, .ref 3 0), (12, vi y1), (13, vi y2)]) (H' := [.loop (none) [48, 49] asn33x0 bdy33x0 70 [(5, .ref 1 0), (8, .ref 2 0), (11, .ref 3 0)], .cells [.d (L3 b1x0)], .cells [.d (OP89 b2x0)], .cells [vb b3x0]]) rfl rfl ?_
 refine awp_wkQ ?_
 refine awp_block ?_
 obtain ⟨x1, hx1, h⟩ := ob h
 obtain ⟨x2, hx2, h⟩ := ob h
 obtain ⟨x3, hx3, h⟩ := ob h
 refine awp_draw (T' := []) (H' := [.loop (none) [48, 49] asn33x0 bdy33x0 70 [(5, .ref 1 0), (8, .ref 2 0), (11, .ref 3 0)], .cells [.d (L3 b1x0)], .cells [.d (OP89 b2x0)], .cells [vb (cond b3x0 true x3)]]) (ps := [((!b3x0) = true → (!b3x0) = true), ((!b3x0) = true → (!b3x0) = true), ((!b3x0) = true → IX3 b1x0 y1 x1), ((!b3x0) = true → (!b3x0) = true), ((!b3x0) = true → (!b3x0) = true), ((!b3x0) = true → (!b3x0) = true), ((!b3x0) = true → IX3 b1x0 y2 x2), ((!b3x0) = true → (!b3x0) = true), ((!b3x0) = true → (!b3x0) = true), ((!b3x0) = true → (!b3x0) = true), ((!b3x0) = true → (!b3x0) = true), ((!b3x0) = true → PCall Try.prog 68 [(OP89 b2x0), (di x1), (di x2)] (vb x3)), (b3x0 = false → (!b3x0) = true)]) tt_ok mixed (ks := []) (hs := [.no, .no, .no, .no, .no, .cells (cel3 x1), .no, .no, .no, .cells (cel3 x2), .no, .call [(OP89 b2x0), (di x1), (di x2)] (vb x3)]) (m := 11) (mid := [11, 51, 52, 56, 60, 61, 62]) (by kernel_rfl) (And.intro (id) (And.intro (id) (And.intro ((fun hg => idxOk cel3_len (optG_of hx1 hg))) (And.intro (id) (And.intro (id) (And.intro (id) (And.intro ((fun hg => idxOk cel3_len (optG_of hx2 hg))) (And.intro (id) (And.intro (id) (And.intro (id) (And.intro (id) (And.intro ((fun hg => ct68 (optG_of hx3 hg))) (not_of))))))))))))) ?_
 obtain rfl := Option.some.inj h
 try delta blockQ
 try delta thenQ
 try delta noGotoA
 show Wk _ _ _ _ _
 refine Wk.mk 4 [] (by kernel_rfl) (T' := []) (H' := [.loop (none) [48, 49] asn33x0 bdy33x0 70 [(5, .ref 1 0), (8, .ref 2 0), (11, .ref 3 0)], .cells [.d (L3 b1x0)], .cells [.d (OP89 b2x0)], .cells [vb (cond b3x0 true x3)]]) (by kernel_rfl) (by kernel_rfl) ?_
 exact ⟨none, rfl, rfl, by kernel_rfl, by kernel_rfl⟩
theorem ct88v1 {fuel : Nat}  {b1x0 : List Int} {b2x0 : (Option S_colour_chart)} {b3x0 : Bool} {b4x0 : (Option S_colour_chart)} {b5x0 : Int} {b5x1 : Int} {res : Bool} (h : F88v1 fuel b1x0 b2x0 b3x0 b4x0 b5x0 b5x1 = some res) : HCall Try.prog 88 [.yld 0, .ref 4 0, .ref 5 0] [.loop (some none) [48, 49] asn33x0 bdy33x0 70 [(5, .ref 1 0), (8, .ref 2 0), (11, .ref 3 0)], .cells [.d (L3 b1x0)], .cells [.d (OP89 b2x0)], .cells [vb b3x0], .cells [.d (OP89 b4x0)], .cells [vi b5x0, vi b5x1]] (.tup []) [.loop (some none) [48, 49] asn33x0 bdy33x0 70 [(5, .ref 1 0), (8, .ref 2 0), (11, .ref 3 0)], .cells [.d (L3 b1x0)], .cells [.d (OP89 b2x0)], .cells [vb res], .cells [.d (OP89 b4x0)], .cells [vi b5x0, vi b5x1]] := by
 refine HCall.of_awpS tt_ok (N := 64) (fl := 6) Try.func88 rfl (by kernel_rfl) rfl rfl (Nat.le_of_ble_eq_true rfl) ?_
 unfold F88v1 at h
 refine awp_res [.loop (some none) [48, 49] asn33x0 bdy33x0 70 [(5, .ref 1 0), (8, .ref 2 0), (11, .ref 3 0)], .cells [.d (L3 b1x0)], .cells [.d (OP89 b2x0)], .cells [vb b3x0], .cells [.d (OP89 b4x0)], .cells [vi b5x0, vi b5x1], .data []] (by kernel_rfl) ?_
 refine awp_res [.loop (some none) [48, 49] asn33x0 bdy33x0 70 [(5, .ref 1 0), (8, .ref 2 0), (11, .ref 3 0)], .cells [.d (L3 b1x0)], .cells [.d (OP89 b2x0)], .cells [vb b3x0], .cells [.d (OP89 b4x0)], .cells [vi b5x0, vi b5x1], .data [], .data []] (by kernel_rfl) ?_
 obtain ⟨x1, hx1, h⟩ := ob h
 obtain ⟨x2, hx2, h⟩ := ob h
 obtain ⟨x3, hx3, h⟩ := ob h
 obtain ⟨x4, hx4, h⟩ := ob h
 refine awp_seq (awp_any (T' := [(0, .yld 0), (4, .ref 6 0), (5, .ref 7 0)]) (H' := [.loop (some none) [48, 49] asn33x0 bdy33x0 70 [(5, .ref 1 0), (8, .ref 2 0), (11, .ref 3 0)], .cells [.d (L3 b1x0)], .cells [.d (OP89 b2x0)], .cells [vb b3x0], .cells [.d (OP89 b4x0)], .cells [vi b5x0, vi b5x1], .cells [vi x2.Lo, vi x2.Hi], .cells [vi x4.Lo, vi x4.Hi]]) (ps := [((OP89 b4x0) = .optr true ([(L60 x1.ClMap.Borders), (di x1.ClMap.Step), (L60 x1.ClMap.Heights), (L51 x1.ClMap.Sides), (di x1.ClMap.Inks), (L51 x1.ClMap.Like), (L3 x1.legend), (L60 x1.bands)] ++ x1.vec.map di0)), IX60 x1.bands b5x0 x2, ((OP89 b4x0) = .optr true ([(L60 x3.ClMap.Borders), (di x3.ClMap.Step), (L60 x3.ClMap.Heights), (L51 x3.ClMap.Sides), (di x3.ClMap.Inks), (L51 x3.ClMap.Like), (L3 x3.legend), (L60 x3.bands)] ++ x3.vec.map di0)), IX60 x3.bands b5x1 x4]) tt_ok mixed (ks := [0, 4, 5]) (hs := [.no, .cells ([(L60 x1.ClMap.Borders), (di x1.ClMap.Step), (L60 x1.ClMap.Heights), (L51 x1.ClMap.Sides), (di x1.ClMap.Inks), (L51 x1.ClMap.Like), (L3 x1.legend), (L60 x1.bands)] ++ x1.vec.map di0), .no, .no, .no, .no, .cells (cel60 x2), .no, .no, .cells ([(L60 x3.ClMap.Borders), (di x3.ClMap.Step), (L60 x3.ClMap.Heights), (L51 x3.ClMap.Sides), (di x3.ClMap.Inks), (L51 x3.ClMap.Like), (L3 x3.legend), (L60 x3.bands)] ++ x3.vec.map di0), .no, .no, .no, .no, .cells (cel60 x4), .no, .res 6, .res 7]) (m := 19) (mid := [0, 4, 5, 25]) (by kernel_rfl) (And.intro (optr_of (f := opc89) hx1) (And.intro (idxOk cel60_len hx2) (And.intro (optr_of (f := opc89) hx3) (idxOk cel60_len hx4)))) ?_)
 show awp ..
 refine g0 [0, 4, 5, 31, 32] [] [(0, .yld 0), (4, .ref 6 0), (5, .ref 7 0), (31, vi (w64 ((w64 (x2.Hi - x2.Lo)) + 1))), (32, vi 0)] [.loop (some none) [48, 49] asn33x0 bdy33x0 70 [(5, .ref 1 0), (8, .ref 2 0), (11, .ref 3 0)], .cells [.d (L3 b1x0)], .cells [.d (OP89 b2x0)], .cells [vb b3x0], .cells [.d (OP89 b4x0)], .cells [vi b5x0, vi b5x1], .cells [vi x2.Lo, vi x2.Hi], .cells [vi x4.Lo, vi x4.Hi]] ?_
 obtain ⟨o5, ho5, h⟩ := ob h
 refine awp_cut1 (OutQ (fun (ro5 : Bool) => []) (fun (ro5 : Bool) => [.loop (some none) [48, 49] asn33x0 bdy33x0 70 [(5, .ref 1 0), (8, .ref 2 0), (11, .ref 3 0)], .cells [.d (L3 b1x0)], .cells [.d (OP89 b2x0)], .cells [vb ro5], .cells [.d (OP89 b4x0)], .cells [vi b5x0, vi b5x1]]) (fun (so5 : Bool) => []) (fun (so5 : Bool) => [.loop (some none) [48, 49] asn33x0 bdy33x0 70 [(5, .ref 1 0), (8, .ref 2 0), (11, .ref 3 0)], .cells [.d (L3 b1x0)], .cells [.d (OP89 b2x0)], .cells [vb so5], .cells [.d (OP89 b4x0)], .cells [vi b5x0, vi b5x1], .cells [vi x2.Lo, vi x2.Hi], .cells [vi x4.Lo, vi x4.Hi]]) o5) ?_ ?_
 ·clear h
  have h := ho5
  clear ho5
  refine awp_selQ (gw 8 [0, 4, 5, 31, 32] [(0, .yld 0), (4, .ref 6 0), (5, .ref 7 0), (31, vi (w64 ((w64 (x2.Hi - x2.Lo)) + 1))), (32, vi 0)] [.loop (some none) [48, 49] asn33x0 bdy33x0 70 [(5, .ref 1 0), (8, .ref 2 0), (11, .ref 3 0)], .cells [.d (L3 b1x0)], .cells [.d (OP89 b2x0)], .cells [vb b3x0], .cells [.d (OP89 b4x0)], .cells [vi b5x0, vi b5x1], .cells [vi x2.Lo, vi x2.Hi], .cells [vi x4.Lo, vi x4.Hi]] ?_)
  refine awp_block (awp_loop (n := fuel) ?_)
  refine awpN_ind (fun n (c6 : Int × Bool) => F88v1L1 fuel b1x0 b2x0 x2 x4 n c6) o5 (fun (c6 : Int × Bool) => [(0, .yld 0), (4, .ref 6 0), (5, .ref 7 0), (31, vi (w64 ((w64 (x2.Hi - x2.Lo)) + 1))), (32, vi c6.1)]) (fun (c6 : Int × Bool) => [.loop (some none) [48, 49] asn33x0 bdy33x0 70 [(5, .ref 1 0), (8, .ref 2 0), (11, .ref 3 0)], .cells [.d (L3 b1x0)], .cells [.d (OP89 b2x0)], .cells [vb c6.2], .cells [.d (OP89 b4x0)], .cells [vi b5x0, vi b5x1], .cells [vi x2.Lo, vi x2.Hi], .cells [vi x4.Lo, vi x4.Hi]]) (fun _ => rfl) ?_ fuel (0, b3x0) h
  clear h
  intro n7 c6 h hrn7
  change F88v1L1 fuel b1x0 b2x0 x2 x4 (n7 + 1) c6 = some o5 at h
  rw [F88v1L1] at h
  refine g0 [0, 4, 5, 31, 32, 33] [] [(0, .yld 0), (4, .ref 6 0), (5, .ref 7 0), (31, vi (w64 ((w64 (x2.Hi - x2.Lo)) + 1))), (32, vi c6.1), (33, vb (decide (c6.1 < (w64 ((w64 (x2.Hi - x2.Lo)) + 1)))))] [.loop (some none) [48, 49] asn33x0 bdy33x0 70 [(5, .ref 1 0), (8, .ref 2 0), (11, .ref 3 0)], .cells [.d (L3 b1x0)], .cells [.d (OP89 b2x0)], .cells [vb c6.2], .cells [.d (OP89 b4x0)], .cells [vi b5x0, vi b5x1], .cells [vi x2.Lo, vi x2.Hi], .cells [vi x4.Lo, vi x4.Hi]] ?_
  refine awp_seq (awp_cond (b := (decide (c6.1 < (w64 ((w64 (x2.Hi - x2.Lo)) + 1))))) (by kernel_rfl) (fun hb8 => ?_) (fun hb8 => ?_))
  ·rw [if_pos hb8] at h
   refine awp_skip ?_
   show awp ..
   refine awp_seq (awp_block ?_)
   refine g0 [0, 4, 5, 6, 31, 32] [] [(0, .yld 0), (4, .ref 6 0), (5, .ref 7 0), (6, vi c6.1), (31, vi (w64 ((w64 (x2.Hi - x2.Lo)) + 1))), (32, vi c6.1)] [.loop (some none) [48, 49] asn33x0 bdy33x0 70 [(5, .ref 1 0), (8, .ref 2 0), (11, .ref 3 0)], .cells [.d (L3 b1x0)], .cells [.d (OP89 b2x0)], .cells [vb c6.2], .cells [.d (OP89 b4x0)], .cells [vi b5x0, vi b5x1], .cells [vi x2.Lo, vi x2.Hi], .cells [vi x4.Lo, vi x4.Hi]] ?_
   refine g0 [0, 4, 5, 6, 31, 32, 40, 41] [] [(0, .yld 0), (4, .ref 6 0), (5, .ref 7 0), (6, vi c6.1), (31, vi (w64 ((w64 (x2.Hi - x2.Lo)) + 1))), (32, vi c6.1), (40, vi (w64 ((w64 (x4.Hi - x4.Lo)) + 1))), (41, vi 0)] [.loop (some none) [48, 49] asn33x0 bdy33x0 70 [(5, .ref 1 0), (8, .ref 2 0), (11, .ref 3 0)], .cells [.d (L3 b1x0)], .cells [.d (OP89 b2x0)], .cells [vb c6.2], .cells [.d (OP89 b4x0)], .cells [vi b5x0, vi b5x1], .cells [vi x2.Lo, vi x2.Hi], .cells [vi x4.Lo, vi x4.Hi]] ?_
   obtain ⟨o9, ho9, h⟩ := ob h
   refine awp_cut1 (OutQ (fun (ro9 : Bool) => []) (fun (ro9 : Bool) => [.loop (some none) [48, 49] asn33x0 bdy33x0 70 [(5, .ref 1 0), (8, .ref 2 0), (11, .ref 3 0)], .cells [.d (L3 b1x0)], .cells [.d (OP89 b2x0)], .cells [vb ro9], .cells [.d (OP89 b4x0)], .cells [vi b5x0, vi b5x1]]) (fun (so9 : Bool) => [(0, .yld 0), (4, .ref 6 0), (5, .ref 7 0), (31, vi (w64 ((w64 (x2.Hi - x2.Lo)) + 1))), (32, vi c6.1)]) (fun (so9 : Bool) => [.loop (some none) [48, 49] asn33x0 bdy33x0 70 [(5, .ref 1 0), (8, .ref 2 0), (11, .ref 3 0)], .cells [.d (L3 b1x0)], .cells [.d (OP89 b2x0)], .cells [vb so9], .cells [.d (OP89 b4x0)], .cells [vi b5x0, vi b5x1], .cells [vi x2.Lo, vi x2.Hi], .cells [vi x4.Lo, vi x4.Hi]]) o9) ?_ ?_
   ·clear h
    have h := ho9
    clear ho9
    refine awp_selQ (gw 8 [0, 4, 5, 6, 31, 32, 40, 41] [(0, .yld 0), (4, .ref 6 0), (5, .ref 7 0), (6, vi c6.1), (31, vi (w64 ((w64 (x2.Hi - x2.Lo)) + 1))), (32, vi c6.1), (40, vi (w64 ((w64 (x4.Hi - x4.Lo)) + 1))), (41, vi 0)] [.loop (some none) [48, 49] asn33x0 bdy33x0 70 [(5, .ref 1 0), (8, .ref 2 0), (11, .ref 3 0)], .cells [.d (L3 b1x0)], .cells [.d (OP89 b2x0)], .cells [vb c6.2], .cells [.d (OP89 b4x0)], .cells [vi b5x0, vi b5x1], .cells [vi x2.Lo, vi x2.Hi], .cells [vi x4.Lo, vi x4.Hi]] ?_)
    refine awp_block (awp_loop (n := fuel) ?_)
    refine awpN_ind (fun n (c10 : Int × Bool) => F88v1L2 b1x0 b2x0 x2 x4 c6 n c10) o9 (fun (c10 : Int × Bool) => [(0, .yld 0), (4, .ref 6 0), (5, .ref 7 0), (6, vi c6.1), (31, vi (w64 ((w64 (x2.Hi - x2.Lo)) + 1))), (32, vi c6.1), (40, vi (w64 ((w64 (x4.Hi - x4.Lo)) + 1))), (41, vi c10.1)]) (fun (c10 : Int × Bool) => [.loop (some none) [48, 49] asn33x0 bdy33x0 70 [(5, .ref 1 0), (8, .ref 2 0), (11, .ref 3 0)], .cells [.d (L3 b1x0)], .cells [.d (OP89 b2x0)], .cells [vb c10.2], .cells [.d (OP89 b4x0)], .cells [vi b5x0, vi b5x1], .cells [vi x2.Lo, vi x2.Hi], .cells [vi x4.Lo, vi x4.Hi]]) (fun _ => rfl) ?_ fuel (0, c6.2) h
    clear h
    intro n11 c10 h hrn11
    change F88v1L2 b1x0 b2x0 x2 x4 c6 (n11 + 1) c10 = some o9 at h
    rw [F88v1L2] at h
    refine g0 [0, 4, 5, 6, 31, 32, 40, 41, 42] [] [(0, .yld 0), (4, .ref 6 0), (5, .ref 7 0), (6, vi c6.1), (31, vi (w64 ((w64 (x2.Hi - x2.Lo)) + 1))), (32, vi c6.1), (40, vi (w64 ((w64 (x4.Hi - x4.Lo)) + 1))), (41, vi c10.1), (42, vb (decide (c10.1 < (w64 ((w64 (x4.Hi - x4.Lo)) + 1)))))] [.loop (some none) [48, 49] asn33x0 bdy33x0 70 [(5, .ref 1 0), (8, .ref 2 0), (11, .ref 3 0)], .cells [.d (L3 b1x0)], .cells [.d (OP89 b2x0)], .cells [vb c10.2], .cells [.d (OP89 b4x0)], .cells [vi b5x0, vi b5x1], .cells [vi x2.Lo, vi x2.Hi], .cells [vi x4.Lo, vi x4.Hi]] ?_
    refine awp_seq (awp_cond (b := (decide (c10.1 < (w64 ((w64 (x4.Hi - x4.Lo)) + 1))))) (by kernel_rfl) (fun hb12 => ?_) (fun hb12 => ?_))
    ·rw [if_pos hb12] at h
     refine awp_skip ?_
     show awp ..
     refine awp_seq (awp_block ?_)
     refine g0 [0, 4, 5, 6, 7, 31, 32, 40, 41] [] [(0, .yld 0), (4, .ref 6 0), (5, .ref 7 0), (6, vi c6.1), (7, vi c10.1), (31, vi (w64 ((w64 (x2.Hi - x2.Lo)) + 1))), (32, vi c6.1), (40, vi (w64 ((w64 (x4.Hi - x4.Lo)) + 1))), (41, vi c10.1)] [.loop (some none) [48, 49] asn33x0 bdy33x0 70 [(5, .ref 1 0), (8, .ref 2 0), (11, .ref 3 0)], .cells [.d (L3 b1x0)], .cells [.d (OP89 b2x0)], .cells [vb c10.2], .cells [.d (OP89 b4x0)], .cells [vi b5x0, vi b5x1], .cells [vi x2.Lo, vi x2.Hi], .cells [vi x4.Lo, vi x4.Hi]] ?_
     refine awp_sdraw tt_ok mixed (ks := [0, 4, 5, 6, 8, 9, 31, 32, 40, 41]) (hs := []) 9 [0, 4, 5, 6, 8, 9, 31, 32, 40, 41, 51] [(0, .yld 0), (4, .ref 6 0), (5, .ref 7 0), (6, vi c6.1), (8, vi (w64 (x2.Lo + c6.1))), (9, vi (w64 (x4.Lo + c10.1))), (31, vi (w64 ((w64 (x2.Hi - x2.Lo)) + 1))), (32, vi c6.1), (40, vi (w64 ((w64 (x4.Hi - x4.Lo)) + 1))), (41, vi c10.1)] [.loop (some none) [48, 49] asn33x0 bdy33x0 70 [(5, .ref 1 0), (8, .ref 2 0), (11, .ref 3 0)], .cells [.d (L3 b1x0)], .cells [.d (OP89 b2x0)], .cells [vb c10.2], .cells [.d (OP89 b4x0)], .cells [vi b5x0, vi b5x1], .cells [vi x2.Lo, vi x2.Hi], .cells [vi x4.Lo, vi x4.Hi]] [] (by kernel_rfl) trivial ?_
     obtain ⟨x13, hx13, h⟩ := ob h
     refine gr [0, 4, 5, 6, 31, 32, 40, 41, 61] [.no, .no, .no, .no, .no, .no, .no, .gcall [(0, false), (1, false), (2, false), (3, false)] (vb true) [.loop (some none) [48, 49] asn33x0 bdy33x0 70 [(5, .ref 1 0), (8, .ref 2 0), (11, .ref 3 0)], .cells [.d (L3 b1x0)], .cells [.d (OP89 b2x0)], .cells [vb x13]] [.loop (some none) [48, 49] asn33x0 bdy33x0 70 [(5, .ref 1 0), (8, .ref 2 0), (11, .ref 3 0)], .cells [.d (L3 b1x0)], .cells [.d (OP89 b2x0)], .cells [vb (cond ((w64 (x2.Lo + c6.1)) != (w64 (x4.Lo + c10.1))) x13 c10.2)], .cells [.d (OP89 b4x0)], .cells [vi b5x0, vi b5x1], .cells [vi x2.Lo, vi x2.Hi], .cells [vi x4.Lo, vi x4.Hi]]] [(0, .yld 0), (4, .ref 6 0), (5, .ref 7 0), (6, vi c6.1), (31, vi (w64 ((w64 (x2.Hi - x2.Lo)) + 1))), (32, vi c6.1), (40, vi (w64 ((w64 (x4.Hi - x4.Lo)) + 1))), (41, vi c10.1), (61, vb (cond ((w64 (x2.Lo + c6.1)) != (w64 (x4.Lo + c10.1))) false false))] [.loop (some none) [48, 49] asn33x0 bdy33x0 70 [(5, .ref 1 0), (8, .ref 2 0), (11, .ref 3 0)], .cells [.d (L3 b1x0)], .cells [.d (OP89 b2x0)], .cells [vb (cond ((w64 (x2.Lo + c6.1)) != (w64 (x4.Lo + c10.1))) x13 c10.2)], .cells [.d (OP89 b4x0)], .cells [vi b5x0, vi b5x1], .cells [vi x2.Lo, vi x2.Hi], .cells [vi x4.Lo, vi x4.Hi]] [(((w64 (x2.Lo + c6.1)) != (w64 (x4.Lo + c10.1))) = true → ((w64 (x2.Lo + c6.1)) != (w64 (x4.Lo + c10.1))) = true), (((w64 (x2.Lo + c6.1)) != (w64 (x4.Lo + c10.1))) = true → ((w64 (x2.Lo + c6.1)) != (w64 (x4.Lo + c10.1))) = true), (((w64 (x2.Lo + c6.1)) != (w64 (x4.Lo + c10.1))) = true → ((w64 (x2.Lo + c6.1)) != (w64 (x4.Lo + c10.1))) = true), (((w64 (x2.Lo + c6.1)) != (w64 (x4.Lo + c10.1))) = true → ([.loop (some none) [48, 49] asn33x0 bdy33x0 70 [(5, .ref 1 0), (8, .ref 2 0), (11, .ref 3 0)], .cells [.d (L3 b1x0)], .cells [.d (OP89 b2x0)], .cells [vb x13], .cells [.d (OP89 b4x0)], .cells [vi b5x0, vi b5x1], .cells [vi x2.Lo, vi x2.Hi], .cells [vi x4.Lo, vi x4.Hi]] : List O) = [.loop (some none) [48, 49] asn33x0 bdy33x0 70 [(5, .ref 1 0), (8, .ref 2 0), (11, .ref 3 0)], .cells [.d (L3 b1x0)], .cells [.d (OP89 b2x0)], .cells [vb (cond ((w64 (x2.Lo + c6.1)) != (w64 (x4.Lo + c10.1))) x13 c10.2)], .cells [.d (OP89 b4x0)], .cells [vi b5x0, vi b5x1], .cells [vi x2.Lo, vi x2.Hi], .cells [vi x4.Lo, vi x4.Hi]]), (((w64 (x2.Lo + c6.1)) != (w64 (x4.Lo + c10.1))) = false → ([.loop (some none) [48, 49] asn33x0 bdy33x0 70 [(5, .ref 1 0), (8, .ref 2 0), (11, .ref 3 0)], .cells [.d (L3 b1x0)], .cells [.d (OP89 b2x0)], .cells [vb c10.2], .cells [.d (OP89 b4x0)], .cells [vi b5x0, vi b5x1], .cells [vi x2.Lo, vi x2.Hi], .cells [vi x4.Lo, vi x4.Hi]] : List O) = [.loop (some none) [48, 49] asn33x0 bdy33x0 70 [(5, .ref 1 0), (8, .ref 2 0), (11, .ref 3 0)], .cells [.d (L3 b1x0)], .cells [.d (OP89 b2x0)], .cells [vb (cond ((w64 (x2.Lo + c6.1)) != (w64 (x4.Lo + c10.1))) x13 c10.2)], .cells [.d (OP89 b4x0)], .cells [vi b5x0, vi b5x1], .cells [vi x2.Lo, vi x2.Hi], .cells [vi x4.Lo, vi x4.Hi]]), (((w64 (x2.Lo + c6.1)) != (w64 (x4.Lo + c10.1))) = true → YCall Try.prog [.yld 0, vi (w64 (x2.Lo + c6.1)), vi (w64 (x4.Lo + c10.1))] [.loop (some none) [48, 49] asn33x0 bdy33x0 70 [(5, .ref 1 0), (8, .ref 2 0), (11, .ref 3 0)], .cells [.d (L3 b1x0)], .cells [.d (OP89 b2x0)], .cells [vb c10.2]] (vb true) [.loop (some none) [48, 49] asn33x0 bdy33x0 70 [(5, .ref 1 0), (8, .ref 2 0), (11, .ref 3 0)], .cells [.d (L3 b1x0)], .cells [.d (OP89 b2x0)], .cells [vb x13]]), (((w64 (x2.Lo + c6.1)) != (w64 (x4.Lo + c10.1))) = true → ((w64 (x2.Lo + c6.1)) != (w64 (x4.Lo + c10.1))) = true), (((w64 (x2.Lo + c6.1)) != (w64 (x4.Lo + c10.1))) = true → ((w64 (x2.Lo + c6.1)) != (w64 (x4.Lo + c10.1))) = true)] (And.intro (id) (And.intro (id) (And.intro (id) (And.intro ((fun hg => by first | rfl | (rw [hg]; done) | (rw [hg]; rfl) | simp only [hg, cond_true])) (And.intro ((fun hg => by first | rfl | (rw [hg]; done) | (rw [hg]; rfl) | simp only [hg, cond_false])) (And.intro ((fun hg => ct33r (optG_of hx13 hg))) (And.intro (id) (id)))))))) ?_
     refine awp_cond (b := (cond ((w64 (x2.Lo + c6.1)) != (w64 (x4.Lo + c10.1))) false false)) (by kernel_rfl) (fun hb14 => ?_) (fun hb14 => ?_)
     ·rw [if_pos hb14] at h
      obtain rfl := Option.some.inj h
      refine gw 8 [] [] [.loop (some none) [48, 49] asn33x0 bdy33x0 70 [(5, .ref 1 0), (8, .ref 2 0), (11, .ref 3 0)], .cells [.d (L3 b1x0)], .cells [.d (OP89 b2x0)], .cells [vb (cond ((w64 (x2.Lo + c6.1)) != (w64 (x4.Lo + c10.1))) x13 c10.2)], .cells [.d (OP89 b4x0)], .cells [vi b5x0, vi b5x1], .cells [vi x2.Lo, vi x2.Hi], .cells [vi x4.Lo, vi x4.Hi]] ?_
      exact awp_ret (gs [0, 1, 2, 3, 4, 5] [] OutQ.ret)
     ·rw [if_neg (ntrue hb14)] at h
      refine awp_skip ?_
      show awp ..
      refine x0 [0, 4, 5, 6, 31, 32, 40, 41] [] [(0, .yld 0), (4, .ref 6 0), (5, .ref 7 0), (6, vi c6.1), (31, vi (w64 ((w64 (x2.Hi - x2.Lo)) + 1))), (32, vi c6.1), (40, vi (w64 ((w64 (x4.Hi - x4.Lo)) + 1))), (41, vi (w64 (c10.1 + 1)))] [.loop (some none) [48, 49] asn33x0 bdy33x0 70 [(5, .ref 1 0), (8, .ref 2 0), (11, .ref 3 0)], .cells [.d (L3 b1x0)], .cells [.d (OP89 b2x0)], .cells [vb (cond ((w64 (x2.Lo + c6.1)) != (w64 (x4.Lo + c10.1))) x13 c10.2)], .cells [.d (OP89 b4x0)], .cells [vi b5x0, vi b5x1], .cells [vi x2.Lo, vi x2.Hi], .cells [vi x4.Lo, vi x4.Hi]] ?_
      exact gn 8 [0, 4, 5, 6, 31, 32, 40, 41] (hrn11 ((w64 (c10.1 + 1)), (cond ((w64 (x2.Lo + c6.1)) != (w64 (x4.Lo + c10.1))) x13 c10.2)) h)
    ·rw [if_neg (ntrue hb12)] at h
     refine awp_exit ?_
     obtain rfl := Option.some.inj h
     exact gs [0, 1, 2, 3, 4, 5, 6, 7] [0, 4, 5, 31, 32] OutQ.norm
   ·intro e T H hq
    cases o9 with
    | inl ro9 =>
     obtain ⟨rfl, rfl, rfl⟩ := hq
     rw [outK_inl] at h
     obtain rfl := Option.some.inj h
     exact gs [0, 1, 2, 3, 4, 5] [] OutQ.ret
    | inr so9 =>
     obtain ⟨rfl, rfl, rfl⟩ := hq
     rw [outK_inr] at h
     show awp ..
     refine x0 [0, 4, 5, 31, 32] [] [(0, .yld 0), (4, .ref 6 0), (5, .ref 7 0), (31, vi (w64 ((w64 (x2.Hi - x2.Lo)) + 1))), (32, vi (w64 (c6.1 + 1)))] [.loop (some none) [48, 49] asn33x0 bdy33x0 70 [(5, .ref 1 0), (8, .ref 2 0), (11, .ref 3 0)], .cells [.d (L3 b1x0)], .cells [.d (OP89 b2x0)], .cells [vb so9], .cells [.d (OP89 b4x0)], .cells [vi b5x0, vi b5x1], .cells [vi x2.Lo, vi x2.Hi], .cells [vi x4.Lo, vi x4.Hi]] ?_
     exact gn 8 [0, 4, 5, 31, 32] (hrn7 ((w64 (c6.1 + 1)), so9) h)
  ·rw [if_neg (ntrue hb8)] at h
   refine awp_exit ?_
   obtain rfl := Option.some.inj h
   exact gs [0, 1, 2, 3, 4, 5, 6, 7] [] OutQ.norm
 ·intro e T H hq
  cases o5 with
  | inl ro5 =>
   obtain ⟨rfl, rfl, rfl⟩ := hq
   rw [outK_inl] at h
   obtain rfl := Option.some.inj h
   exact (main_retS [0, 1, 2, 3, 4, 5] (.tup []) (by kernel_rfl) (by kernel_rfl) (by kernel_rfl) (by kernel_rfl))
  | inr so5 =>
   obtain ⟨rfl, rfl, rfl⟩ := hq
   rw [outK_inr] at h
   obtain rfl := Option.some.inj h
   exact (main_retN [0, 1, 2, 3, 4, 5] (.tup []) (by kernel_rfl) (by kernel_rfl) (by kernel_rfl) (by kernel_rfl))
theorem ct33 {fuel : Nat}  {p_m : S_api_ClMap} {legend : (List Int)} {inks : (List Int)} {res : (List Int) × Int} (h : F33 fuel p_m legend inks = some res) : PCall Try.prog 33 [(ma p_m), (L3 legend), (L3 inks)] (.tup [.d (L3 res.1), vi res.2]) := by
 refine PCall.of_awp tt_ok (N := 70) Try.func33 rfl (by kernel_rfl) rfl (Nat.le_of_ble_eq_true rfl) rfl ?_
 unfold F33 at h
 refine g0 [1, 3, 5, 6] [] [(1, .d (L3 legend)), (3, .ref 0 0), (5, .ref 1 0), (6, .d dnil)] [mc p_m, .cells [.d (L3 inks)]] ?_
 obtain ⟨x1, hx1, h⟩ := ob h
 refine gr [1, 3, 5, 6, 7, 8] [.no, .no, .call [(ma p_m), (L3 legend)] (.tup [.d (OP89 x1.1), vi x1.2])] [(1, .d (L3 legend)), (3, .ref 0 0), (5, .ref 1 0), (6, .d dnil), (7, vi x1.2), (8, .ref 2 0)] [mc p_m, .cells [.d (L3 inks)], .cells [.d (OP89 x1.1)]] [PCall Try.prog 64 [(ma p_m), (L3 legend)] (.tup [.d (OP89 x1.1), vi x1.2])] (ct64 hx1) ?_
 refine awp_seq (awp_block ?_)
 refine g0 [1, 3, 5, 6, 7, 8, 20] [] [(1, .d (L3 legend)), (3, .ref 0 0), (5, .ref 1 0), (6, .d dnil), (7, vi x1.2), (8, .ref 2 0), (20, vb (x1.2 != 0))] [mc p_m, .cells [.d (L3 inks)], .cells [.d (OP89 x1.1)]] ?_
 refine awp_cond (b := (x1.2 != 0)) (by kernel_rfl) (fun hb2 => ?_) (fun hb2 => ?_)
 ·rw [if_pos hb2] at h
  refine g0 [6, 7] [] [(6, .d dnil), (7, vi x1.2)] [mc p_m, .cells [.d (L3 inks)], .cells [.d (OP89 x1.1)]] ?_
  obtain rfl := Option.some.inj h
  refine gw 3 [6, 7] [(6, .d dnil), (7, vi x1.2)] [mc p_m, .cells [.d (L3 inks)], .cells [.d (OP89 x1.1)]] ?_
  refine awp_laxT 6 _ (L3 ([] : List Int)) _ (by kernel_rfl) (.nil (e := 1)) rfl ?_
  refine gw 3 [6, 7] [(6, .d (L3 ([] : List Int))), (7, vi x1.2)] [mc p_m, .cells [.d (L3 inks)], .cells [.d (OP89 x1.1)]] ?_
  exact awp_ret gm
 ·rw [if_neg (ntrue hb2)] at h
  refine g0 [3, 5, 6, 8, 24] [] [(3, .ref 0 0), (5, .ref 1 0), (6, .d dnil), (8, .ref 2 0), (24, vb ((inks.length : Int) != (w64 ((legend.length : Int) + 1))))] [mc p_m, .cells [.d (L3 inks)], .cells [.d (OP89 x1.1)]] ?_
  refine awp_cond (b := ((inks.length : Int) != (w64 ((legend.length : Int) + 1)))) (by kernel_rfl) (fun hb3 => ?_) (fun hb3 => ?_)
  ·rw [if_pos hb3] at h
   refine g0 [6, 7] [] [(6, .d dnil), (7, vi 3)] [mc p_m, .cells [.d (L3 inks)], .cells [.d (OP89 x1.1)]] ?_
   obtain rfl := Option.some.inj h
   refine gw 3 [6, 7] [(6, .d dnil), (7, vi 3)] [mc p_m, .cells [.d (L3 inks)], .cells [.d (OP89 x1.1)]] ?_
   refine awp_laxT 6 _ (L3 ([] : List Int)) _ (by kernel_rfl) (.nil (e := 1)) rfl ?_
   refine gw 3 [6, 7] [(6, .d (L3 ([] : List Int))), (7, vi 3)] [mc p_m, .cells [.d (L3 inks)], .cells [.d (OP89 x1.1)]] ?_
   exact awp_ret gm
  ·rw [if_neg (ntrue hb3)] at h
   obtain ⟨x4, hx4, h⟩ := ob h
   refine gr [3, 5, 6, 8, 31] [.no, .no, .no, .no, .call [(di 0), (di (w64 (p_m.Inks - 1))), (L3 inks)] (vb x4)] [(3, .ref 0 0), (5, .ref 1 0), (6, .d dnil), (8, .ref 2 0), (31, vb x4)] [mc p_m, .cells [.d (L3 inks)], .cells [.d (OP89 x1.1)]] [PCall Try.prog 52 [(di 0), (di (w64 (p_m.Inks - 1))), (L3 inks)] (vb x4)] (ct52 hx4) ?_
   refine awp_cond (b := x4) (by kernel_rfl) (fun hb5 => ?_) (fun hb5 => ?_)
   ·rw [if_pos hb5] at h
    refine g0 [6, 7] [] [(6, .d dnil), (7, vi 4)] [mc p_m, .cells [.d (L3 inks)], .cells [.d (OP89 x1.1)]] ?_
    obtain rfl := Option.some.inj h
    refine gw 3 [6, 7] [(6, .d dnil), (7, vi 4)] [mc p_m, .cells [.d (L3 inks)], .cells [.d (OP89 x1.1)]] ?_
    refine awp_laxT 6 _ (L3 ([] : List Int)) _ (by kernel_rfl) (.nil (e := 1)) rfl ?_
    refine gw 3 [6, 7] [(6, .d (L3 ([] : List Int))), (7, vi 4)] [mc p_m, .cells [.d (L3 inks)], .cells [.d (OP89 x1.1)]] ?_
    exact awp_ret gm
   ·rw [if_neg (ntrue hb5)] at h
    refine awp_skip ?_
    show awp ..
    refine awp_seq (g0 [5, 6, 8, 38, 39, 40] [] [(5, .ref 1 0), (6, .d dnil), (8, .ref 2 0), (38, .d (L51 p_m.Sides)), (39, vi (p_m.Sides.length : Int)), (40, vi 0)] [mc p_m, .cells [.d (L3 inks)], .cells [.d (OP89 x1.1)]] ?_)
    refine awp_nil 6 1 (by kernel_rfl) ?_
    refine awp_eq (T' := [(6, .sl 1 3 0 ([] : List Int).length), (5, .ref 1 0), (8, .ref 2 0), (38, .d (L51 p_m.Sides)), (39, vi (p_m.Sides.length : Int)), (40, vi 0)]) (H' := [mc p_m, .cells [.d (L3 inks)], .cells [.d (OP89 x1.1)], .data (([] : List Int).flatMap cel3)]) (by kernel_rfl) (by kernel_rfl) ?_
    refine gw 4 [5, 6, 8, 38, 39, 40] [(5, .ref 1 0), (6, .sl 1 3 0 ([] : List Int).length), (8, .ref 2 0), (38, .d (L51 p_m.Sides)), (39, vi (p_m.Sides.length : Int)), (40, vi 0)] [mc p_m, .cells [.d (L3 inks)], .cells [.d (OP89 x1.1)], .data (([] : List Int).flatMap cel3)] ?_
    obtain ⟨o7, ho7, h⟩ := ob h
    refine awp_cut1 (OutQ (fun (ro7 : (List Int) × Int) => [(6, .d (L3 ro7.1)), (7, vi ro7.2)]) (fun (ro7 : (List Int) × Int) => []) (fun (so7 : (List Int)) => [(6, .sl 1 3 0 so7.length)]) (fun (so7 : (List Int)) => [mc p_m, .cells [.d (L3 inks)], .cells [.d (OP89 x1.1)], .data (so7.flatMap cel3)]) o7) ?_ ?_
    ·clear h
     have h := ho7
     clear ho7
     refine awp_selQ (gw 4 [5, 6, 8, 38, 39, 40] [(5, .ref 1 0), (6, .sl 1 3 0 ([] : List Int).length), (8, .ref 2 0), (38, .d (L51 p_m.Sides)), (39, vi (p_m.Sides.length : Int)), (40, vi 0)] [mc p_m, .cells [.d (L3 inks)], .cells [.d (OP89 x1.1)], .data (([] : List Int).flatMap cel3)] ?_)
     refine awp_block (awp_loop (n := fuel) ?_)
     refine awpN_ind (fun n (c8 : Int × (List Int)) => F33L1 fuel p_m inks x1 n c8) o7 (fun (c8 : Int × (List Int)) => [(5, .ref 1 0), (6, .sl 1 3 0 c8.2.length), (8, .ref 2 0), (38, .d (L51 p_m.Sides)), (39, vi (p_m.Sides.length : Int)), (40, vi c8.1)]) (fun (c8 : Int × (List Int)) => [mc p_m, .cells [.d (L3 inks)], .cells [.d (OP89 x1.1)], .data (c8.2.flatMap cel3)]) (fun _ => rfl) ?_ fuel (0, ([] : List Int)) h
     clear h
     intro n9 c8 h hrn9
     change F33L1 fuel p_m inks x1 (n9 + 1) c8 = some o7 at h
     rw [F33L1] at h
     refine g0 [5, 6, 8, 38, 39, 40, 41] [] [(5, .ref 1 0), (6, .sl 1 3 0 c8.2.length), (8, .ref 2 0), (38, .d (L51 p_m.Sides)), (39, vi (p_m.Sides.length : Int)), (40, vi c8.1), (41, vb (decide (c8.1 < (p_m.Sides.length : Int))))] [mc p_m, .cells [.d (L3 inks)], .cells [.d (OP89 x1.1)], .data (c8.2.flatMap cel3)] ?_
     refine awp_seq (awp_cond (b := (decide (c8.1 < (p_m.Sides.length : Int)))) (by kernel_rfl) (fun hb10 => ?_) (fun hb10 => ?_))
     ·rw [if_pos hb10] at h
      refine awp_skip ?_
      show awp ..
      refine awp_seq (awp_block ?_)
      obtain ⟨x11, hx11, h⟩ := ob h
      refine gr [5, 6, 8, 9, 10, 38, 39, 40] [.no, .cells (cel51 x11)] [(5, .ref 1 0), (6, .sl 1 3 0 c8.2.length), (8, .ref 2 0), (9, vi c8.1), (10, .ref 4 0), (38, .d (L51 p_m.Sides)), (39, vi (p_m.Sides.length : Int)), (40, vi c8.1)] [mc p_m, .cells [.d (L3 inks)], .cells [.d (OP89 x1.1)], .data (c8.2.flatMap cel3), .cells [vi x11.A, vi x11.B]] [IX51 p_m.Sides c8.1 x11] (idxOk cel51_len hx11) ?_
      refine g0 [5, 6, 8, 9, 10, 11, 38, 39, 40] [] [(5, .ref 1 0), (6, .sl 1 3 0 c8.2.length), (8, .ref 2 0), (9, vi c8.1), (10, .ref 4 0), (11, .ref 5 0), (38, .d (L51 p_m.Sides)), (39, vi (p_m.Sides.length : Int)), (40, vi c8.1)] [mc p_m, .cells [.d (L3 inks)], .cells [.d (OP89 x1.1)], .data (c8.2.flatMap cel3), .cells [vi x11.A, vi x11.B], .cells [vb false]] ?_
      refine awp_seq ?_
      obtain ⟨x12, hx12, h⟩ := ob h
      refine gr [5, 6, 8, 9, 11, 38, 39, 40, 47] [.no, .no, .hcall [] (.fn (.func 88) [] [.ref 0 0, .ref 1 0]) [.cells [.d (OP89 x12.1)], .cells [vi x12.2.1, vi x12.2.2]]] [(5, .ref 1 0), (6, .sl 1 3 0 c8.2.length), (8, .ref 2 0), (9, vi c8.1), (11, .ref 5 0), (38, .d (L51 p_m.Sides)), (39, vi (p_m.Sides.length : Int)), (40, vi c8.1), (47, .fn (.func 88) [] [.ref 6 0, .ref 7 0])] [mc p_m, .cells [.d (L3 inks)], .cells [.d (OP89 x1.1)], .data (c8.2.flatMap cel3), .cells [vi x11.A, vi x11.B], .cells [vb false], .cells [.d (OP89 x12.1)], .cells [vi x12.2.1, vi x12.2.2]] [HCall Try.prog 72 [.d (OP89 x1.1), .d (.agg [(di x11.A), (di x11.B)])] [] (.fn (.func 88) [] [.ref 0 0, .ref 1 0]) [.cells [.d (OP89 x12.1)], .cells [vi x12.2.1, vi x12.2.2]]] (ct72v2 hx12) ?_
      refine awp_block ?_
      obtain ⟨x13, hx13, h⟩ := ob h
      refine awp_range (ks := [5, 8, 11]) (ids := [(8, false), (1, false), (2, false), (5, false), (6, false), (7, false)]) (r := .tup []) (Hc := [.loop (some none) [48, 49] asn33x0 bdy33x0 70 [(5, .ref 1 0), (8, .ref 2 0), (11, .ref 3 0)], .cells [.d (L3 inks)], .cells [.d (OP89 x1.1)], .cells [vb x13], .cells [.d (OP89 x12.1)], .cells [vi x12.2.1, vi x12.2.2]]) none [(5, .ref 1 0), (6, .sl 1 3 0 c8.2.length), (8, .ref 2 0), (9, vi c8.1), (11, .ref 5 0), (38, .d (L51 p_m.Sides)), (39, vi (p_m.Sides.length : Int)), (40, vi c8.1), (47, .fn (.func 88) [] [.ref 6 0, .ref 7 0])] [mc p_m, .cells [.d (L3 inks)], .cells [.d (OP89 x1.1)], .data (c8.2.flatMap cel3), .cells [vi x11.A, vi x11.B], .cells [vb x13], .cells [.d (OP89 x12.1)], .cells [vi x12.2.1, vi x12.2.2], .data []] [HCall Try.prog 88 [.yld 0, .ref 4 0, .ref 5 0] [.loop (some none) [48, 49] asn33x0 bdy33x0 70 [(5, .ref 1 0), (8, .ref 2 0), (11, .ref 3 0)], .cells [.d (L3 inks)], .cells [.d (OP89 x1.1)], .cells [vb false], .cells [.d (OP89 x12.1)], .cells [vi x12.2.1, vi x12.2.2]] (.tup []) [.loop (some none) [48, 49] asn33x0 bdy33x0 70 [(5, .ref 1 0), (8, .ref 2 0), (11, .ref 3 0)], .cells [.d (L3 inks)], .cells [.d (OP89 x1.1)], .cells [vb x13], .cells [.d (OP89 x12.1)], .cells [vi x12.2.1, vi x12.2.2]]] rfl (by kernel_rfl) (ct88v1 hx13) (fun _ => ?_) (fun c hc => absurd hc (by simp))
      show awp ..
      refine g0 [5, 6, 8, 9, 38, 39, 40, 63] [] [(5, .ref 1 0), (6, .sl 1 3 0 c8.2.length), (8, .ref 2 0), (9, vi c8.1), (38, .d (L51 p_m.Sides)), (39, vi (p_m.Sides.length : Int)), (40, vi c8.1), (63, vb x13)] [mc p_m, .cells [.d (L3 inks)], .cells [.d (OP89 x1.1)], .data (c8.2.flatMap cel3), .cells [vi x11.A, vi x11.B], .cells [vb x13], .cells [.d (OP89 x12.1)], .cells [vi x12.2.1, vi x12.2.2], .data []] ?_
      refine awp_cond (b := x13) (by kernel_rfl) (fun hb14 => ?_) (fun hb14 => ?_)
      ·rw [if_pos hb14] at h
       obtain ⟨x15, hx15, h⟩ := ob h
       refine xr [5, 6, 8, 38, 39, 40] [.no, .no, .no, .list (c8.2 ++ ([c8.1] : List Int)).length ((c8.2 ++ ([c8.1] : List Int)).flatMap cel3)] [(5, .ref 1 0), (6, .sl 1 3 0 (c8.2 ++ ([c8.1] : List Int)).length), (8, .ref 2 0), (38, .d (L51 p_m.Sides)), (39, vi (p_m.Sides.length : Int)), (40, vi c8.1)] [mc p_m, .cells [.d (L3 inks)], .cells [.d (OP89 x1.1)], .data ((c8.2 ++ ([c8.1] : List Int)).flatMap cel3), .cells [vi x11.A, vi x11.B], .cells [vb x13], .cells [.d (OP89 x12.1)], .cells [vi x12.2.1, vi x12.2.2], .data []] [AppendOk ((c8.2.flatMap cel3).map .d) c8.2.length ([c8.1] : List Int).length (c8.2 ++ ([c8.1] : List Int)).length 1 8 (([c8.1] : List Int).flatMap cel3) ((c8.2 ++ ([c8.1] : List Int)).flatMap cel3)] (appendOk cel3_len (need_of hx15)) ?_
       show awp ..
       refine x0 [5, 6, 8, 38, 39, 40] [] [(5, .ref 1 0), (6, .sl 1 3 0 (c8.2 ++ ([c8.1] : List Int)).length), (8, .ref 2 0), (38, .d (L51 p_m.Sides)), (39, vi (p_m.Sides.length : Int)), (40, vi (w64 (c8.1 + 1)))] [mc p_m, .cells [.d (L3 inks)], .cells [.d (OP89 x1.1)], .data ((c8.2 ++ ([c8.1] : List Int)).flatMap cel3), .cells [vi x11.A, vi x11.B], .cells [vb x13], .cells [.d (OP89 x12.1)], .cells [vi x12.2.1, vi x12.2.2], .data []] ?_
       exact gn 4 [5, 6, 8, 38, 39, 40] (hrn9 ((w64 (c8.1 + 1)), (c8.2 ++ ([c8.1] : List Int))) h)
      ·rw [if_neg (ntrue hb14)] at h
       refine awp_skip ?_
       show awp ..
       refine x0 [5, 6, 8, 38, 39, 40] [] [(5, .ref 1 0), (6, .sl 1 3 0 c8.2.length), (8, .ref 2 0), (38, .d (L51 p_m.Sides)), (39, vi (p_m.Sides.length : Int)), (40, vi (w64 (c8.1 + 1)))] [mc p_m, .cells [.d (L3 inks)], .cells [.d (OP89 x1.1)], .data (c8.2.flatMap cel3), .cells [vi x11.A, vi x11.B], .cells [vb x13], .cells [.d (OP89 x12.1)], .cells [vi x12.2.1, vi x12.2.2], .data []] ?_
       exact gn 4 [5, 6, 8, 38, 39, 40] (hrn9 ((w64 (c8.1 + 1)), c8.2) h)
     ·rw [if_neg (ntrue hb10)] at h
      refine awp_exit ?_
      obtain rfl := Option.some.inj h
      exact gs [0, 1, 2, 3] [6] OutQ.norm
    ·intro e T H hq
     cases o7 with
     | inl ro7 =>
      obtain ⟨rfl, rfl, rfl⟩ := hq
      rw [outK_inl] at h
      obtain rfl := Option.some.inj h
      exact gm
     | inr so7 =>
      obtain ⟨rfl, rfl, rfl⟩ := hq
      rw [outK_inr] at h
      show awp ..
      refine g0 [6, 7] [] [(6, .sl 1 3 0 so7.length), (7, vi 0)] [mc p_m, .cells [.d (L3 inks)], .cells [.d (OP89 x1.1)], .data (so7.flatMap cel3)] ?_
      obtain rfl := Option.some.inj h
      refine gw 4 [6, 7] [(6, .sl 1 3 0 so7.length), (7, vi 0)] [mc p_m, .cells [.d (L3 inks)], .cells [.d (OP89 x1.1)], .data (so7.flatMap cel3)] ?_
      refine awp_freeze 6 3 (so7.flatMap cel3) (.sl 1 3 0 so7.length) (.d (L3 so7)) _ _ (ps := [(so7.flatMap cel3).length = so7.length * 1]) (by kernel_rfl) (by kernel_rfl) (by kernel_rfl) (flatMap_len cel3 1 cel3_len so7) rfl rfl ?_
      refine gw 4 [6, 7] [(6, .d (L3 so7)), (7, vi 0)] [mc p_m, .cells [.d (L3 inks)], .cells [.d (OP89 x1.1)], .data (([] : List Int).flatMap cel3)] ?_
      exact awp_ret gm
end Go.Proofs.Ytpkhbbboedoldaa
