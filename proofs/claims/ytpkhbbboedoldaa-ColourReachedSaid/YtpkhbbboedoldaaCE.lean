/- That functions of the seat compute this. Printed by a program of mine. -/
import Derived.Test.YtpkhbbboedoldaaS
import Derived.Test.YtpkhbbboedoldaaDE
namespace Go.Proofs.Ytpkhbbboedoldaa
open Go Go.Sx
set_option maxRecDepth 100000
set_option linter.unusedVariables false
theorem ct80  {p_n : Int} {b0x0 : Int} {b1x0 : Int} {res : Bool} (h : F80 p_n b0x0 b1x0 = some res) : HCall Try.prog 80 [vi p_n, .ref 0 0, .ref 1 0] [.cells [vi b0x0], .cells [vi b1x0]] (vb res) [.cells [vi b0x0], .cells [vi b1x0]] := by
 refine HCall.of_awpS tt_ok (N := 13) (fl := 2) Try.func80 rfl (by kernel_rfl) rfl rfl (Nat.le_of_ble_eq_true rfl) ?_
 unfold F80 at h
 refine g0 [0, 1, 2] [] [(0, vi p_n), (1, .ref 0 0), (2, .ref 1 0)] [.cells [vi b0x0], .cells [vi b1x0]] ?_
 refine gr [4] [] [(4, vb (cond (decide (p_n < b0x0)) true (decide (p_n > b1x0))))] [.cells [vi b0x0], .cells [vi b1x0]] [((!(decide (p_n < b0x0))) = true → (!(decide (p_n < b0x0))) = true), ((!(decide (p_n < b0x0))) = true → (!(decide (p_n < b0x0))) = true), ((decide (p_n < b0x0)) = false → (!(decide (p_n < b0x0))) = true)] (And.intro (id) (And.intro (id) (not_of))) ?_
 obtain rfl := Option.some.inj h
 refine gw 2 [4] [(4, vb (cond (decide (p_n < b0x0)) true (decide (p_n > b1x0))))] [.cells [vi b0x0], .cells [vi b1x0]] ?_
 exact awp_ret (main_retS [0, 1] (vb (cond (decide (p_n < b0x0)) true (decide (p_n > b1x0)))) (by kernel_rfl) (by kernel_rfl) (by kernel_rfl) (by kernel_rfl))
theorem ct90 {fuel : Nat}  {p_s : (List Int)} {b0x0 : Int} {b1x0 : Int} {res : Int} (h : F90 fuel p_s b0x0 b1x0 = some res) : HCall Try.prog 90 [.d (L3 p_s), .fn (.func 80) [] [.ref 0 0, .ref 1 0]] [.cells [vi b0x0], .cells [vi b1x0]] (vi res) [.cells [vi b0x0], .cells [vi b1x0]] := by
 refine HCall.of_awpS tt_ok (N := 19) (fl := 2) Try.func90 rfl (by kernel_rfl) rfl rfl (Nat.le_of_ble_eq_true rfl) ?_
 unfold F90 at h
 refine g0 [0, 1] [] [(0, .d (L3 p_s)), (1, .fn (.func 80) [] [.ref 0 0, .ref 1 0])] [.cells [vi b0x0], .cells [vi b1x0]] ?_
 refine awp_seq (g0 [0, 1, 7, 8] [] [(0, .d (L3 p_s)), (1, .fn (.func 80) [] [.ref 0 0, .ref 1 0]), (7, vi (p_s.length : Int)), (8, vi 0)] [.cells [vi b0x0], .cells [vi b1x0]] ?_)
 obtain ⟨o1, ho1, h⟩ := ob h
 refine awp_cut1 (OutQ (fun (ro1 : Int) => [(4, vi ro1)]) (fun (ro1 : Int) => [.cells [vi b0x0], .cells [vi b1x0]]) (fun (so1 : Unit) => []) (fun (so1 : Unit) => [.cells [vi b0x0], .cells [vi b1x0]]) o1) ?_ ?_
 ·clear h
  have h := ho1
  clear ho1
  refine awp_selQ (gw 2 [0, 1, 7, 8] [(0, .d (L3 p_s)), (1, .fn (.func 80) [] [.ref 0 0, .ref 1 0]), (7, vi (p_s.length : Int)), (8, vi 0)] [.cells [vi b0x0], .cells [vi b1x0]] ?_)
  refine awp_block (awp_loop (n := fuel) ?_)
  refine awpN_ind (fun n (c2 : Int) => F90L1 p_s b0x0 b1x0 n c2) o1 (fun (c2 : Int) => [(0, .d (L3 p_s)), (1, .fn (.func 80) [] [.ref 0 0, .ref 1 0]), (7, vi (p_s.length : Int)), (8, vi c2)]) (fun (c2 : Int) => [.cells [vi b0x0], .cells [vi b1x0]]) (fun _ => rfl) ?_ fuel 0 h
  clear h
  intro n3 c2 h hrn3
  change F90L1 p_s b0x0 b1x0 (n3 + 1) c2 = some o1 at h
  rw [F90L1] at h
  refine g0 [0, 1, 7, 8, 9] [] [(0, .d (L3 p_s)), (1, .fn (.func 80) [] [.ref 0 0, .ref 1 0]), (7, vi (p_s.length : Int)), (8, vi c2), (9, vb (decide (c2 < (p_s.length : Int))))] [.cells [vi b0x0], .cells [vi b1x0]] ?_
  refine awp_seq (awp_cond (b := (decide (c2 < (p_s.length : Int)))) (by kernel_rfl) (fun hb4 => ?_) (fun hb4 => ?_))
  ·rw [if_pos hb4] at h
   refine awp_skip ?_
   show awp ..
   refine awp_seq (awp_block ?_)
   refine g0 [0, 1, 5, 7, 8] [] [(0, .d (L3 p_s)), (1, .fn (.func 80) [] [.ref 0 0, .ref 1 0]), (5, vi c2), (7, vi (p_s.length : Int)), (8, vi c2)] [.cells [vi b0x0], .cells [vi b1x0]] ?_
   obtain ⟨x5, hx5, h⟩ := ob h
   obtain ⟨x6, hx6, h⟩ := ob h
   refine gr [0, 1, 5, 7, 8, 16] [.no, .no, .no, .cells (cel3 x5), .no, .hcall [(0, false), (1, false)] (vb x6) [.cells [vi b0x0], .cells [vi b1x0]]] [(0, .d (L3 p_s)), (1, .fn (.func 80) [] [.ref 0 0, .ref 1 0]), (5, vi c2), (7, vi (p_s.length : Int)), (8, vi c2), (16, vb x6)] [.cells [vi b0x0], .cells [vi b1x0]] [IX3 p_s c2 x5, HCall Try.prog 80 [vi x5, .ref 0 0, .ref 1 0] [.cells [vi b0x0], .cells [vi b1x0]] (vb x6) [.cells [vi b0x0], .cells [vi b1x0]]] (And.intro (idxOk cel3_len hx5) (ct80 hx6)) ?_
   refine awp_cond (b := x6) (by kernel_rfl) (fun hb7 => ?_) (fun hb7 => ?_)
   ·rw [if_pos hb7] at h
    refine g0 [4] [] [(4, vi c2)] [.cells [vi b0x0], .cells [vi b1x0]] ?_
    obtain rfl := Option.some.inj h
    refine gw 2 [4] [(4, vi c2)] [.cells [vi b0x0], .cells [vi b1x0]] ?_
    exact awp_ret (gs [0, 1] [4] OutQ.ret)
   ·rw [if_neg (ntrue hb7)] at h
    refine awp_skip ?_
    show awp ..
    refine x0 [0, 1, 7, 8] [] [(0, .d (L3 p_s)), (1, .fn (.func 80) [] [.ref 0 0, .ref 1 0]), (7, vi (p_s.length : Int)), (8, vi (w64 (c2 + 1)))] [.cells [vi b0x0], .cells [vi b1x0]] ?_
    exact gn 2 [0, 1, 7, 8] (hrn3 (w64 (c2 + 1)) h)
  ·rw [if_neg (ntrue hb4)] at h
   refine awp_exit ?_
   obtain rfl := Option.some.inj h
   exact gs [0, 1] [] OutQ.norm
 ·intro e T H hq
  cases o1 with
  | inl ro1 =>
   obtain ⟨rfl, rfl, rfl⟩ := hq
   rw [outK_inl] at h
   obtain rfl := Option.some.inj h
   exact (main_retS [0, 1] (vi ro1) (by kernel_rfl) (by kernel_rfl) (by kernel_rfl) (by kernel_rfl))
  | inr so1 =>
   obtain ⟨rfl, rfl, rfl⟩ := hq
   rw [outK_inr] at h
   show awp ..
   refine g0 [4] [] [(4, vi (-1))] [.cells [vi b0x0], .cells [vi b1x0]] ?_
   obtain rfl := Option.some.inj h
   refine gw 2 [4] [(4, vi (-1))] [.cells [vi b0x0], .cells [vi b1x0]] ?_
   exact awp_ret (main_retS [0, 1] (vi (-1)) (by kernel_rfl) (by kernel_rfl) (by kernel_rfl) (by kernel_rfl))
theorem ct79 {fuel : Nat}  {p_s : (List Int)} {b0x0 : Int} {b1x0 : Int} {res : Bool} (h : F79 fuel p_s b0x0 b1x0 = some res) : HCall Try.prog 79 [.d (L3 p_s), .fn (.func 80) [] [.ref 0 0, .ref 1 0]] [.cells [vi b0x0], .cells [vi b1x0]] (vb res) [.cells [vi b0x0], .cells [vi b1x0]] := by
 refine HCall.of_awpS tt_ok (N := 9) (fl := 2) Try.func79 rfl (by kernel_rfl) rfl rfl (Nat.le_of_ble_eq_true rfl) ?_
 unfold F79 at h
 refine g0 [0, 1] [] [(0, .d (L3 p_s)), (1, .fn (.func 80) [] [.ref 0 0, .ref 1 0])] [.cells [vi b0x0], .cells [vi b1x0]] ?_
 obtain ⟨x1, hx1, h⟩ := ob h
 refine gr [4] [.no, .no, .hcall [(0, false), (1, false)] (vi x1) [.cells [vi b0x0], .cells [vi b1x0]]] [(4, vb (decide (x1 ≥ 0)))] [.cells [vi b0x0], .cells [vi b1x0]] [HCall Try.prog 90 [.d (L3 p_s), .fn (.func 80) [] [.ref 0 0, .ref 1 0]] [.cells [vi b0x0], .cells [vi b1x0]] (vi x1) [.cells [vi b0x0], .cells [vi b1x0]]] (ct90 hx1) ?_
 obtain rfl := Option.some.inj h
 refine gw 2 [4] [(4, vb (decide (x1 ≥ 0)))] [.cells [vi b0x0], .cells [vi b1x0]] ?_
 exact awp_ret (main_retS [0, 1] (vb (decide (x1 ≥ 0))) (by kernel_rfl) (by kernel_rfl) (by kernel_rfl) (by kernel_rfl))
theorem ct52 {fuel : Nat}  {lo : Int} {hi : Int} {numbers : (List Int)} {res : Bool} (h : F52 fuel lo hi numbers = some res) : PCall Try.prog 52 [(di lo), (di hi), (L3 numbers)] (vb res) := by
 refine PCall.of_awp tt_ok (N := 10) Try.func52 rfl (by kernel_rfl) rfl (Nat.le_of_ble_eq_true rfl) rfl ?_
 unfold F52 at h
 refine g0 [2, 3, 4] [] [(2, .d (L3 numbers)), (3, .ref 0 0), (4, .ref 1 0)] [.cells [vi lo], .cells [vi hi]] ?_
 obtain ⟨x1, hx1, h⟩ := ob h
 refine gr [6] [.no, .no, .hcall [(0, false), (1, false)] (vb x1) [.cells [vi lo], .cells [vi hi]]] [(6, vb x1)] [.cells [vi lo], .cells [vi hi]] [HCall Try.prog 79 [.d (L3 numbers), .fn (.func 80) [] [.ref 0 0, .ref 1 0]] [.cells [vi lo], .cells [vi hi]] (vb x1) [.cells [vi lo], .cells [vi hi]]] (ct79 hx1) ?_
 obtain rfl := Option.some.inj h
 refine gw 2 [6] [(6, vb x1)] [.cells [vi lo], .cells [vi hi]] ?_
 exact awp_ret gm
theorem ct55 {fuel : Nat}  {p_s : S_api_Span} {wide : Int} {res : Int} (h : F55 fuel p_s wide = some res) : PCall Try.prog 55 [(.agg [(di p_s.Lo), (di p_s.Hi)]), (di wide)] (vi res) := by
 refine PCall.of_awp tt_ok (N := 23) Try.func55 rfl (by kernel_rfl) rfl (Nat.le_of_ble_eq_true rfl) rfl ?_
 unfold F55 at h
 refine g0 [1, 2] [] [(1, vi wide), (2, .ref 0 0)] [.cells [vi p_s.Lo, vi p_s.Hi]] ?_
 refine awp_seq (awp_block ?_)
 obtain ⟨x1, hx1, h⟩ := ob h
 refine gr [1, 2, 5] [.no, .no, .no, .no, .no, .call [(di 0), (di 9000), (L3 ([p_s.Lo, p_s.Hi] : List Int))] (vb x1)] [(1, vi wide), (2, .ref 0 0), (5, vb x1)] [.cells [vi p_s.Lo, vi p_s.Hi]] [PCall Try.prog 52 [(di 0), (di 9000), (L3 ([p_s.Lo, p_s.Hi] : List Int))] (vb x1)] (ct52 hx1) ?_
 refine awp_cond (b := x1) (by kernel_rfl) (fun hb2 => ?_) (fun hb2 => ?_)
 ·rw [if_pos hb2] at h
  refine g0 [4] [] [(4, vi 7)] [.cells [vi p_s.Lo, vi p_s.Hi]] ?_
  obtain rfl := Option.some.inj h
  refine gw 1 [4] [(4, vi 7)] [.cells [vi p_s.Lo, vi p_s.Hi]] ?_
  exact awp_ret gm
 ·rw [if_neg (ntrue hb2)] at h
  obtain ⟨x3, hx3, h⟩ := ob h
  refine gr [12] [.no, .no, .no, .no, .no, .no, .no, .no, .no, .call [(di p_s.Lo), (di (w64 (p_s.Lo + wide))), (L3 ([p_s.Hi] : List Int))] (vb x3)] [(12, vb x3)] [.cells [vi p_s.Lo, vi p_s.Hi]] [PCall Try.prog 52 [(di p_s.Lo), (di (w64 (p_s.Lo + wide))), (L3 ([p_s.Hi] : List Int))] (vb x3)] (ct52 hx3) ?_
  refine awp_cond (b := x3) (by kernel_rfl) (fun hb4 => ?_) (fun hb4 => ?_)
  ·rw [if_pos hb4] at h
   refine g0 [4] [] [(4, vi 2)] [.cells [vi p_s.Lo, vi p_s.Hi]] ?_
   obtain rfl := Option.some.inj h
   refine gw 1 [4] [(4, vi 2)] [.cells [vi p_s.Lo, vi p_s.Hi]] ?_
   exact awp_ret gm
  ·rw [if_neg (ntrue hb4)] at h
   refine awp_skip ?_
   show awp ..
   refine g0 [4] [] [(4, vi 0)] [.cells [vi p_s.Lo, vi p_s.Hi]] ?_
   obtain rfl := Option.some.inj h
   refine gw 1 [4] [(4, vi 0)] [.cells [vi p_s.Lo, vi p_s.Hi]] ?_
   exact awp_ret gm
theorem ct54 {fuel : Nat}  {p_s : S_api_Span} {res : Int} (h : F54 fuel p_s = some res) : PCall Try.prog 54 [(.agg [(di p_s.Lo), (di p_s.Hi)])] (vi res) := by
 refine PCall.of_awp tt_ok (N := 5) Try.func54 rfl (by kernel_rfl) rfl (Nat.le_of_ble_eq_true rfl) rfl ?_
 unfold F54 at h
 refine g0 [1] [] [(1, .ref 0 0)] [.cells [vi p_s.Lo, vi p_s.Hi]] ?_
 obtain ⟨x1, hx1, h⟩ := ob h
 refine gr [2] [.no, .call [(.agg [(di p_s.Lo), (di p_s.Hi)]), (di 20)] (vi x1)] [(2, vi x1)] [.cells [vi p_s.Lo, vi p_s.Hi]] [PCall Try.prog 55 [(.agg [(di p_s.Lo), (di p_s.Hi)]), (di 20)] (vi x1)] (ct55 hx1) ?_
 obtain rfl := Option.some.inj h
 refine gw 1 [2] [(2, vi x1)] [.cells [vi p_s.Lo, vi p_s.Hi]] ?_
 exact awp_ret gm
theorem ct53 {fuel : Nat}  {l : (List S_api_Span)} {res : Int × Int} (h : F53 fuel l = some res) : HCall Try.prog 53 [.d (L60 l), .fn (.func 54) [] []] [] (.tup [vi res.1, vi res.2]) [] := by
 refine HCall.of_awpS tt_ok (N := 24) (fl := 0) Try.func53 rfl (by kernel_rfl) rfl rfl (Nat.le_of_ble_eq_true rfl) ?_
 unfold F53 at h
 refine g0 [0, 1] [] [(0, .d (L60 l)), (1, .fn (.func 54) [] [])] [] ?_
 refine awp_seq (g0 [1, 9, 10, 11] [] [(1, .fn (.func 54) [] []), (9, .d (L60 l)), (10, vi (l.length : Int)), (11, vi 0)] [] ?_)
 obtain ⟨o1, ho1, h⟩ := ob h
 refine awp_cut1 (OutQ (fun (ro1 : Int × Int) => [(4, vi ro1.1), (5, vi ro1.2)]) (fun (ro1 : Int × Int) => []) (fun (so1 : Unit) => []) (fun (so1 : Unit) => []) o1) ?_ ?_
 ·clear h
  have h := ho1
  clear ho1
  refine awp_selQ (gw 0 [1, 9, 10, 11] [(1, .fn (.func 54) [] []), (9, .d (L60 l)), (10, vi (l.length : Int)), (11, vi 0)] [] ?_)
  refine awp_block (awp_loop (n := fuel) ?_)
  refine awpN_ind (fun n (c2 : Int) => F53L1 fuel l n c2) o1 (fun (c2 : Int) => [(1, .fn (.func 54) [] []), (9, .d (L60 l)), (10, vi (l.length : Int)), (11, vi c2)]) (fun (c2 : Int) => []) (fun _ => rfl) ?_ fuel 0 h
  clear h
  intro n3 c2 h hrn3
  change F53L1 fuel l (n3 + 1) c2 = some o1 at h
  rw [F53L1] at h
  refine g0 [1, 9, 10, 11, 12] [] [(1, .fn (.func 54) [] []), (9, .d (L60 l)), (10, vi (l.length : Int)), (11, vi c2), (12, vb (decide (c2 < (l.length : Int))))] [] ?_
  refine awp_seq (awp_cond (b := (decide (c2 < (l.length : Int)))) (by kernel_rfl) (fun hb4 => ?_) (fun hb4 => ?_))
  ·rw [if_pos hb4] at h
   refine awp_skip ?_
   show awp ..
   refine awp_seq (awp_block ?_)
   obtain ⟨x5, hx5, h⟩ := ob h
   refine gr [1, 6, 7, 9, 10, 11] [.no, .cells (cel60 x5)] [(1, .fn (.func 54) [] []), (6, vi c2), (7, .ref 0 0), (9, .d (L60 l)), (10, vi (l.length : Int)), (11, vi c2)] [.cells [vi x5.Lo, vi x5.Hi]] [IX60 l c2 x5] (idxOk cel60_len hx5) ?_
   obtain ⟨x6, hx6, h⟩ := ob h
   refine gr [1, 6, 8, 9, 10, 11] [.no, .no, .call [(.agg [(di x5.Lo), (di x5.Hi)])] (vi x6)] [(1, .fn (.func 54) [] []), (6, vi c2), (8, vi x6), (9, .d (L60 l)), (10, vi (l.length : Int)), (11, vi c2)] [.cells [vi x5.Lo, vi x5.Hi]] [PCall Try.prog 54 [(.agg [(di x5.Lo), (di x5.Hi)])] (vi x6)] (ct54 hx6) ?_
   refine g0 [1, 6, 8, 9, 10, 11, 20] [] [(1, .fn (.func 54) [] []), (6, vi c2), (8, vi x6), (9, .d (L60 l)), (10, vi (l.length : Int)), (11, vi c2), (20, vb (x6 != 0))] [.cells [vi x5.Lo, vi x5.Hi]] ?_
   refine awp_cond (b := (x6 != 0)) (by kernel_rfl) (fun hb7 => ?_) (fun hb7 => ?_)
   ·rw [if_pos hb7] at h
    refine g0 [4, 5] [] [(4, vi c2), (5, vi x6)] [.cells [vi x5.Lo, vi x5.Hi]] ?_
    obtain rfl := Option.some.inj h
    refine gw 1 [4, 5] [(4, vi c2), (5, vi x6)] [.cells [vi x5.Lo, vi x5.Hi]] ?_
    exact awp_ret (gs [] [4, 5] OutQ.ret)
   ·rw [if_neg (ntrue hb7)] at h
    refine awp_skip ?_
    show awp ..
    refine x0 [1, 9, 10, 11] [] [(1, .fn (.func 54) [] []), (9, .d (L60 l)), (10, vi (l.length : Int)), (11, vi (w64 (c2 + 1)))] [.cells [vi x5.Lo, vi x5.Hi]] ?_
    exact gn 0 [1, 9, 10, 11] (hrn3 (w64 (c2 + 1)) h)
  ·rw [if_neg (ntrue hb4)] at h
   refine awp_exit ?_
   obtain rfl := Option.some.inj h
   exact gs [] [] OutQ.norm
 ·intro e T H hq
  cases o1 with
  | inl ro1 =>
   obtain ⟨rfl, rfl, rfl⟩ := hq
   rw [outK_inl] at h
   obtain rfl := Option.some.inj h
   exact (main_retS [] (.tup [vi ro1.1, vi ro1.2]) (by kernel_rfl) (by kernel_rfl) (by kernel_rfl) (by kernel_rfl))
  | inr so1 =>
   obtain ⟨rfl, rfl, rfl⟩ := hq
   rw [outK_inr] at h
   show awp ..
   refine g0 [4, 5] [] [(4, vi 0), (5, vi 0)] [] ?_
   obtain rfl := Option.some.inj h
   refine gw 0 [4, 5] [(4, vi 0), (5, vi 0)] [] ?_
   exact awp_ret (main_retS [] (.tup [vi 0, vi 0]) (by kernel_rfl) (by kernel_rfl) (by kernel_rfl) (by kernel_rfl))
theorem ct56 {fuel : Nat}  {p_s : S_api_Span} {res : Int} (h : F56 fuel p_s = some res) : PCall Try.prog 56 [(.agg [(di p_s.Lo), (di p_s.Hi)])] (vi res) := by
 refine PCall.of_awp tt_ok (N := 5) Try.func56 rfl (by kernel_rfl) rfl (Nat.le_of_ble_eq_true rfl) rfl ?_
 unfold F56 at h
 refine g0 [1] [] [(1, .ref 0 0)] [.cells [vi p_s.Lo, vi p_s.Hi]] ?_
 obtain ⟨x1, hx1, h⟩ := ob h
 refine gr [2] [.no, .call [(.agg [(di p_s.Lo), (di p_s.Hi)]), (di 9000)] (vi x1)] [(2, vi x1)] [.cells [vi p_s.Lo, vi p_s.Hi]] [PCall Try.prog 55 [(.agg [(di p_s.Lo), (di p_s.Hi)]), (di 9000)] (vi x1)] (ct55 hx1) ?_
 obtain rfl := Option.some.inj h
 refine gw 1 [2] [(2, vi x1)] [.cells [vi p_s.Lo, vi p_s.Hi]] ?_
 exact awp_ret gm
theorem ct53v1 {fuel : Nat}  {l : (List S_api_Span)} {res : Int × Int} (h : F53v1 fuel l = some res) : HCall Try.prog 53 [.d (L60 l), .fn (.func 56) [] []] [] (.tup [vi res.1, vi res.2]) [] := by
 refine HCall.of_awpS tt_ok (N := 24) (fl := 0) Try.func53 rfl (by kernel_rfl) rfl rfl (Nat.le_of_ble_eq_true rfl) ?_
 unfold F53v1 at h
 refine g0 [0, 1] [] [(0, .d (L60 l)), (1, .fn (.func 56) [] [])] [] ?_
 refine awp_seq (g0 [1, 9, 10, 11] [] [(1, .fn (.func 56) [] []), (9, .d (L60 l)), (10, vi (l.length : Int)), (11, vi 0)] [] ?_)
 obtain ⟨o1, ho1, h⟩ := ob h
 refine awp_cut1 (OutQ (fun (ro1 : Int × Int) => [(4, vi ro1.1), (5, vi ro1.2)]) (fun (ro1 : Int × Int) => []) (fun (so1 : Unit) => []) (fun (so1 : Unit) => []) o1) ?_ ?_
 ·clear h
  have h := ho1
  clear ho1
  refine awp_selQ (gw 0 [1, 9, 10, 11] [(1, .fn (.func 56) [] []), (9, .d (L60 l)), (10, vi (l.length : Int)), (11, vi 0)] [] ?_)
  refine awp_block (awp_loop (n := fuel) ?_)
  refine awpN_ind (fun n (c2 : Int) => F53v1L1 fuel l n c2) o1 (fun (c2 : Int) => [(1, .fn (.func 56) [] []), (9, .d (L60 l)), (10, vi (l.length : Int)), (11, vi c2)]) (fun (c2 : Int) => []) (fun _ => rfl) ?_ fuel 0 h
  clear h
  intro n3 c2 h hrn3
  change F53v1L1 fuel l (n3 + 1) c2 = some o1 at h
  rw [F53v1L1] at h
  refine g0 [1, 9, 10, 11, 12] [] [(1, .fn (.func 56) [] []), (9, .d (L60 l)), (10, vi (l.length : Int)), (11, vi c2), (12, vb (decide (c2 < (l.length : Int))))] [] ?_
  refine awp_seq (awp_cond (b := (decide (c2 < (l.length : Int)))) (by kernel_rfl) (fun hb4 => ?_) (fun hb4 => ?_))
  ·rw [if_pos hb4] at h
   refine awp_skip ?_
   show awp ..
   refine awp_seq (awp_block ?_)
   obtain ⟨x5, hx5, h⟩ := ob h
   refine gr [1, 6, 7, 9, 10, 11] [.no, .cells (cel60 x5)] [(1, .fn (.func 56) [] []), (6, vi c2), (7, .ref 0 0), (9, .d (L60 l)), (10, vi (l.length : Int)), (11, vi c2)] [.cells [vi x5.Lo, vi x5.Hi]] [IX60 l c2 x5] (idxOk cel60_len hx5) ?_
   obtain ⟨x6, hx6, h⟩ := ob h
   refine gr [1, 6, 8, 9, 10, 11] [.no, .no, .call [(.agg [(di x5.Lo), (di x5.Hi)])] (vi x6)] [(1, .fn (.func 56) [] []), (6, vi c2), (8, vi x6), (9, .d (L60 l)), (10, vi (l.length : Int)), (11, vi c2)] [.cells [vi x5.Lo, vi x5.Hi]] [PCall Try.prog 56 [(.agg [(di x5.Lo), (di x5.Hi)])] (vi x6)] (ct56 hx6) ?_
   refine g0 [1, 6, 8, 9, 10, 11, 20] [] [(1, .fn (.func 56) [] []), (6, vi c2), (8, vi x6), (9, .d (L60 l)), (10, vi (l.length : Int)), (11, vi c2), (20, vb (x6 != 0))] [.cells [vi x5.Lo, vi x5.Hi]] ?_
   refine awp_cond (b := (x6 != 0)) (by kernel_rfl) (fun hb7 => ?_) (fun hb7 => ?_)
   ·rw [if_pos hb7] at h
    refine g0 [4, 5] [] [(4, vi c2), (5, vi x6)] [.cells [vi x5.Lo, vi x5.Hi]] ?_
    obtain rfl := Option.some.inj h
    refine gw 1 [4, 5] [(4, vi c2), (5, vi x6)] [.cells [vi x5.Lo, vi x5.Hi]] ?_
    exact awp_ret (gs [] [4, 5] OutQ.ret)
   ·rw [if_neg (ntrue hb7)] at h
    refine awp_skip ?_
    show awp ..
    refine x0 [1, 9, 10, 11] [] [(1, .fn (.func 56) [] []), (9, .d (L60 l)), (10, vi (l.length : Int)), (11, vi (w64 (c2 + 1)))] [.cells [vi x5.Lo, vi x5.Hi]] ?_
    exact gn 0 [1, 9, 10, 11] (hrn3 (w64 (c2 + 1)) h)
  ·rw [if_neg (ntrue hb4)] at h
   refine awp_exit ?_
   obtain rfl := Option.some.inj h
   exact gs [] [] OutQ.norm
 ·intro e T H hq
  cases o1 with
  | inl ro1 =>
   obtain ⟨rfl, rfl, rfl⟩ := hq
   rw [outK_inl] at h
   obtain rfl := Option.some.inj h
   exact (main_retS [] (.tup [vi ro1.1, vi ro1.2]) (by kernel_rfl) (by kernel_rfl) (by kernel_rfl) (by kernel_rfl))
  | inr so1 =>
   obtain ⟨rfl, rfl, rfl⟩ := hq
   rw [outK_inr] at h
   show awp ..
   refine g0 [4, 5] [] [(4, vi 0), (5, vi 0)] [] ?_
   obtain rfl := Option.some.inj h
   refine gw 0 [4, 5] [(4, vi 0), (5, vi 0)] [] ?_
   exact awp_ret (main_retS [] (.tup [vi 0, vi 0]) (by kernel_rfl) (by kernel_rfl) (by kernel_rfl) (by kernel_rfl))
theorem ct59 {fuel : Nat}  {p : S_api_ClPair} {below : Int} {res : Int} (h : F59 fuel p below = some res) : PCall Try.prog 59 [(.agg [(di p.A), (di p.B)]), (di below)] (vi res) := by
 refine PCall.of_awp tt_ok (N := 20) Try.func59 rfl (by kernel_rfl) rfl (Nat.le_of_ble_eq_true rfl) rfl ?_
 unfold F59 at h
 refine g0 [1, 2] [] [(1, vi below), (2, .ref 0 0)] [.cells [vi p.A, vi p.B]] ?_
 refine awp_seq (awp_block ?_)
 obtain ⟨x1, hx1, h⟩ := ob h
 refine gr [2, 5] [.no, .no, .no, .no, .no, .no, .no, .call [(di 0), (di (w64 (below - 1))), (L3 ([p.A, p.B] : List Int))] (vb x1)] [(2, .ref 0 0), (5, vb x1)] [.cells [vi p.A, vi p.B]] [PCall Try.prog 52 [(di 0), (di (w64 (below - 1))), (L3 ([p.A, p.B] : List Int))] (vb x1)] (ct52 hx1) ?_
 refine awp_cond (b := x1) (by kernel_rfl) (fun hb2 => ?_) (fun hb2 => ?_)
 ·rw [if_pos hb2] at h
  refine g0 [4] [] [(4, vi 4)] [.cells [vi p.A, vi p.B]] ?_
  obtain rfl := Option.some.inj h
  refine gw 1 [4] [(4, vi 4)] [.cells [vi p.A, vi p.B]] ?_
  exact awp_ret gm
 ·rw [if_neg (ntrue hb2)] at h
  refine g0 [14] [] [(14, vb (p.A == p.B))] [.cells [vi p.A, vi p.B]] ?_
  refine awp_cond (b := (p.A == p.B)) (by kernel_rfl) (fun hb3 => ?_) (fun hb3 => ?_)
  ·rw [if_pos hb3] at h
   refine g0 [4] [] [(4, vi 2)] [.cells [vi p.A, vi p.B]] ?_
   obtain rfl := Option.some.inj h
   refine gw 1 [4] [(4, vi 2)] [.cells [vi p.A, vi p.B]] ?_
   exact awp_ret gm
  ·rw [if_neg (ntrue hb3)] at h
   refine awp_skip ?_
   show awp ..
   refine g0 [4] [] [(4, vi 0)] [.cells [vi p.A, vi p.B]] ?_
   obtain rfl := Option.some.inj h
   refine gw 1 [4] [(4, vi 0)] [.cells [vi p.A, vi p.B]] ?_
   exact awp_ret gm
theorem ct58 {fuel : Nat}  {p : S_api_ClPair} {b0x0 : List S_api_Span} {b0x1 : Int} {b0x2 : List S_api_Span} {b0x3 : List S_api_ClPair} {b0x4 : Int} {b0x5 : List S_api_ClPair} {res : Int} (h : F58 fuel p b0x0 b0x1 b0x2 b0x3 b0x4 b0x5 = some res) : HCall Try.prog 58 [.d (.agg [(di p.A), (di p.B)]), .ref 0 0] [.cells [.d (L60 b0x0), vi b0x1, .d (L60 b0x2), .d (L51 b0x3), vi b0x4, .d (L51 b0x5)]] (vi res) [.cells [.d (L60 b0x0), vi b0x1, .d (L60 b0x2), .d (L51 b0x3), vi b0x4, .d (L51 b0x5)]] := by
 refine HCall.of_awpS tt_ok (N := 9) (fl := 1) Try.func58 rfl (by kernel_rfl) rfl rfl (Nat.le_of_ble_eq_true rfl) ?_
 unfold F58 at h
 refine g0 [1, 2] [] [(1, .ref 0 0), (2, .ref 1 0)] [.cells [.d (L60 b0x0), vi b0x1, .d (L60 b0x2), .d (L51 b0x3), vi b0x4, .d (L51 b0x5)], .cells [vi p.A, vi p.B]] ?_
 obtain ⟨x1, hx1, h⟩ := ob h
 refine gr [3] [.no, .no, .no, .no, .call [(.agg [(di p.A), (di p.B)]), (di (b0x2.length : Int))] (vi x1)] [(3, vi x1)] [.cells [.d (L60 b0x0), vi b0x1, .d (L60 b0x2), .d (L51 b0x3), vi b0x4, .d (L51 b0x5)], .cells [vi p.A, vi p.B]] [PCall Try.prog 59 [(.agg [(di p.A), (di p.B)]), (di (b0x2.length : Int))] (vi x1)] (ct59 hx1) ?_
 obtain rfl := Option.some.inj h
 refine gw 2 [3] [(3, vi x1)] [.cells [.d (L60 b0x0), vi b0x1, .d (L60 b0x2), .d (L51 b0x3), vi b0x4, .d (L51 b0x5)], .cells [vi p.A, vi p.B]] ?_
 exact awp_ret (main_retS [0] (vi x1) (by kernel_rfl) (by kernel_rfl) (by kernel_rfl) (by kernel_rfl))
theorem ct57 {fuel : Nat}  {l : (List S_api_ClPair)} {b0x0 : List S_api_Span} {b0x1 : Int} {b0x2 : List S_api_Span} {b0x3 : List S_api_ClPair} {b0x4 : Int} {b0x5 : List S_api_ClPair} {res : Int × Int} (h : F57 fuel l b0x0 b0x1 b0x2 b0x3 b0x4 b0x5 = some res) : HCall Try.prog 57 [.d (L51 l), .fn (.func 58) [] [.ref 0 0]] [.cells [.d (L60 b0x0), vi b0x1, .d (L60 b0x2), .d (L51 b0x3), vi b0x4, .d (L51 b0x5)]] (.tup [vi res.1, vi res.2]) [.cells [.d (L60 b0x0), vi b0x1, .d (L60 b0x2), .d (L51 b0x3), vi b0x4, .d (L51 b0x5)]] := by
 refine HCall.of_awpS tt_ok (N := 24) (fl := 1) Try.func57 rfl (by kernel_rfl) rfl rfl (Nat.le_of_ble_eq_true rfl) ?_
 unfold F57 at h
 refine g0 [0, 1] [] [(0, .d (L51 l)), (1, .fn (.func 58) [] [.ref 0 0])] [.cells [.d (L60 b0x0), vi b0x1, .d (L60 b0x2), .d (L51 b0x3), vi b0x4, .d (L51 b0x5)]] ?_
 refine awp_seq (g0 [1, 9, 10, 11] [] [(1, .fn (.func 58) [] [.ref 0 0]), (9, .d (L51 l)), (10, vi (l.length : Int)), (11, vi 0)] [.cells [.d (L60 b0x0), vi b0x1, .d (L60 b0x2), .d (L51 b0x3), vi b0x4, .d (L51 b0x5)]] ?_)
 obtain ⟨o1, ho1, h⟩ := ob h
 refine awp_cut1 (OutQ (fun (ro1 : Int × Int) => [(4, vi ro1.1), (5, vi ro1.2)]) (fun (ro1 : Int × Int) => [.cells [.d (L60 b0x0), vi b0x1, .d (L60 b0x2), .d (L51 b0x3), vi b0x4, .d (L51 b0x5)]]) (fun (so1 : Unit) => []) (fun (so1 : Unit) => [.cells [.d (L60 b0x0), vi b0x1, .d (L60 b0x2), .d (L51 b0x3), vi b0x4, .d (L51 b0x5)]]) o1) ?_ ?_
 ·clear h
  have h := ho1
  clear ho1
  refine awp_selQ (gw 1 [1, 9, 10, 11] [(1, .fn (.func 58) [] [.ref 0 0]), (9, .d (L51 l)), (10, vi (l.length : Int)), (11, vi 0)] [.cells [.d (L60 b0x0), vi b0x1, .d (L60 b0x2), .d (L51 b0x3), vi b0x4, .d (L51 b0x5)]] ?_)
  refine awp_block (awp_loop (n := fuel) ?_)
  refine awpN_ind (fun n (c2 : Int) => F57L1 fuel l b0x0 b0x1 b0x2 b0x3 b0x4 b0x5 n c2) o1 (fun (c2 : Int) => [(1, .fn (.func 58) [] [.ref 0 0]), (9, .d (L51 l)), (10, vi (l.length : Int)), (11, vi c2)]) (fun (c2 : Int) => [.cells [.d (L60 b0x0), vi b0x1, .d (L60 b0x2), .d (L51 b0x3), vi b0x4, .d (L51 b0x5)]]) (fun _ => rfl) ?_ fuel 0 h
  clear h
  intro n3 c2 h hrn3
  change F57L1 fuel l b0x0 b0x1 b0x2 b0x3 b0x4 b0x5 (n3 + 1) c2 = some o1 at h
  rw [F57L1] at h
  refine g0 [1, 9, 10, 11, 12] [] [(1, .fn (.func 58) [] [.ref 0 0]), (9, .d (L51 l)), (10, vi (l.length : Int)), (11, vi c2), (12, vb (decide (c2 < (l.length : Int))))] [.cells [.d (L60 b0x0), vi b0x1, .d (L60 b0x2), .d (L51 b0x3), vi b0x4, .d (L51 b0x5)]] ?_
  refine awp_seq (awp_cond (b := (decide (c2 < (l.length : Int)))) (by kernel_rfl) (fun hb4 => ?_) (fun hb4 => ?_))
  ·rw [if_pos hb4] at h
   refine awp_skip ?_
   show awp ..
   refine awp_seq (awp_block ?_)
   obtain ⟨x5, hx5, h⟩ := ob h
   refine gr [1, 6, 7, 9, 10, 11] [.no, .cells (cel51 x5)] [(1, .fn (.func 58) [] [.ref 0 0]), (6, vi c2), (7, .ref 1 0), (9, .d (L51 l)), (10, vi (l.length : Int)), (11, vi c2)] [.cells [.d (L60 b0x0), vi b0x1, .d (L60 b0x2), .d (L51 b0x3), vi b0x4, .d (L51 b0x5)], .cells [vi x5.A, vi x5.B]] [IX51 l c2 x5] (idxOk cel51_len hx5) ?_
   obtain ⟨x6, hx6, h⟩ := ob h
   refine gr [1, 6, 8, 9, 10, 11] [.no, .no, .hcall [(0, false)] (vi x6) [.cells [.d (L60 b0x0), vi b0x1, .d (L60 b0x2), .d (L51 b0x3), vi b0x4, .d (L51 b0x5)]]] [(1, .fn (.func 58) [] [.ref 0 0]), (6, vi c2), (8, vi x6), (9, .d (L51 l)), (10, vi (l.length : Int)), (11, vi c2)] [.cells [.d (L60 b0x0), vi b0x1, .d (L60 b0x2), .d (L51 b0x3), vi b0x4, .d (L51 b0x5)], .cells [vi x5.A, vi x5.B]] [HCall Try.prog 58 [.d (.agg [(di x5.A), (di x5.B)]), .ref 0 0] [.cells [.d (L60 b0x0), vi b0x1, .d (L60 b0x2), .d (L51 b0x3), vi b0x4, .d (L51 b0x5)]] (vi x6) [.cells [.d (L60 b0x0), vi b0x1, .d (L60 b0x2), .d (L51 b0x3), vi b0x4, .d (L51 b0x5)]]] (ct58 hx6) ?_
   refine g0 [1, 6, 8, 9, 10, 11, 20] [] [(1, .fn (.func 58) [] [.ref 0 0]), (6, vi c2), (8, vi x6), (9, .d (L51 l)), (10, vi (l.length : Int)), (11, vi c2), (20, vb (x6 != 0))] [.cells [.d (L60 b0x0), vi b0x1, .d (L60 b0x2), .d (L51 b0x3), vi b0x4, .d (L51 b0x5)], .cells [vi x5.A, vi x5.B]] ?_
   refine awp_cond (b := (x6 != 0)) (by kernel_rfl) (fun hb7 => ?_) (fun hb7 => ?_)
   ·rw [if_pos hb7] at h
    refine g0 [4, 5] [] [(4, vi c2), (5, vi x6)] [.cells [.d (L60 b0x0), vi b0x1, .d (L60 b0x2), .d (L51 b0x3), vi b0x4, .d (L51 b0x5)], .cells [vi x5.A, vi x5.B]] ?_
    obtain rfl := Option.some.inj h
    refine gw 2 [4, 5] [(4, vi c2), (5, vi x6)] [.cells [.d (L60 b0x0), vi b0x1, .d (L60 b0x2), .d (L51 b0x3), vi b0x4, .d (L51 b0x5)], .cells [vi x5.A, vi x5.B]] ?_
    exact awp_ret (gs [0] [4, 5] OutQ.ret)
   ·rw [if_neg (ntrue hb7)] at h
    refine awp_skip ?_
    show awp ..
    refine x0 [1, 9, 10, 11] [] [(1, .fn (.func 58) [] [.ref 0 0]), (9, .d (L51 l)), (10, vi (l.length : Int)), (11, vi (w64 (c2 + 1)))] [.cells [.d (L60 b0x0), vi b0x1, .d (L60 b0x2), .d (L51 b0x3), vi b0x4, .d (L51 b0x5)], .cells [vi x5.A, vi x5.B]] ?_
    exact gn 1 [1, 9, 10, 11] (hrn3 (w64 (c2 + 1)) h)
  ·rw [if_neg (ntrue hb4)] at h
   refine awp_exit ?_
   obtain rfl := Option.some.inj h
   exact gs [0] [] OutQ.norm
 ·intro e T H hq
  cases o1 with
  | inl ro1 =>
   obtain ⟨rfl, rfl, rfl⟩ := hq
   rw [outK_inl] at h
   obtain rfl := Option.some.inj h
   exact (main_retS [0] (.tup [vi ro1.1, vi ro1.2]) (by kernel_rfl) (by kernel_rfl) (by kernel_rfl) (by kernel_rfl))
  | inr so1 =>
   obtain ⟨rfl, rfl, rfl⟩ := hq
   rw [outK_inr] at h
   show awp ..
   refine g0 [4, 5] [] [(4, vi 0), (5, vi 0)] [.cells [.d (L60 b0x0), vi b0x1, .d (L60 b0x2), .d (L51 b0x3), vi b0x4, .d (L51 b0x5)]] ?_
   obtain rfl := Option.some.inj h
   refine gw 1 [4, 5] [(4, vi 0), (5, vi 0)] [.cells [.d (L60 b0x0), vi b0x1, .d (L60 b0x2), .d (L51 b0x3), vi b0x4, .d (L51 b0x5)]] ?_
   exact awp_ret (main_retS [0] (.tup [vi 0, vi 0]) (by kernel_rfl) (by kernel_rfl) (by kernel_rfl) (by kernel_rfl))
theorem ct60 {fuel : Nat}  {p : S_api_ClPair} {b0x0 : List S_api_Span} {b0x1 : Int} {b0x2 : List S_api_Span} {b0x3 : List S_api_ClPair} {b0x4 : Int} {b0x5 : List S_api_ClPair} {res : Int} (h : F60 fuel p b0x0 b0x1 b0x2 b0x3 b0x4 b0x5 = some res) : HCall Try.prog 60 [.d (.agg [(di p.A), (di p.B)]), .ref 0 0] [.cells [.d (L60 b0x0), vi b0x1, .d (L60 b0x2), .d (L51 b0x3), vi b0x4, .d (L51 b0x5)]] (vi res) [.cells [.d (L60 b0x0), vi b0x1, .d (L60 b0x2), .d (L51 b0x3), vi b0x4, .d (L51 b0x5)]] := by
 refine HCall.of_awpS tt_ok (N := 8) (fl := 1) Try.func60 rfl (by kernel_rfl) rfl rfl (Nat.le_of_ble_eq_true rfl) ?_
 unfold F60 at h
 refine g0 [1, 2] [] [(1, .ref 0 0), (2, .ref 1 0)] [.cells [.d (L60 b0x0), vi b0x1, .d (L60 b0x2), .d (L51 b0x3), vi b0x4, .d (L51 b0x5)], .cells [vi p.A, vi p.B]] ?_
 obtain ⟨x1, hx1, h⟩ := ob h
 refine gr [3] [.no, .no, .no, .call [(.agg [(di p.A), (di p.B)]), (di b0x4)] (vi x1)] [(3, vi x1)] [.cells [.d (L60 b0x0), vi b0x1, .d (L60 b0x2), .d (L51 b0x3), vi b0x4, .d (L51 b0x5)], .cells [vi p.A, vi p.B]] [PCall Try.prog 59 [(.agg [(di p.A), (di p.B)]), (di b0x4)] (vi x1)] (ct59 hx1) ?_
 obtain rfl := Option.some.inj h
 refine gw 2 [3] [(3, vi x1)] [.cells [.d (L60 b0x0), vi b0x1, .d (L60 b0x2), .d (L51 b0x3), vi b0x4, .d (L51 b0x5)], .cells [vi p.A, vi p.B]] ?_
 exact awp_ret (main_retS [0] (vi x1) (by kernel_rfl) (by kernel_rfl) (by kernel_rfl) (by kernel_rfl))
theorem ct57v1 {fuel : Nat}  {l : (List S_api_ClPair)} {b0x0 : List S_api_Span} {b0x1 : Int} {b0x2 : List S_api_Span} {b0x3 : List S_api_ClPair} {b0x4 : Int} {b0x5 : List S_api_ClPair} {res : Int × Int} (h : F57v1 fuel l b0x0 b0x1 b0x2 b0x3 b0x4 b0x5 = some res) : HCall Try.prog 57 [.d (L51 l), .fn (.func 60) [] [.ref 0 0]] [.cells [.d (L60 b0x0), vi b0x1, .d (L60 b0x2), .d (L51 b0x3), vi b0x4, .d (L51 b0x5)]] (.tup [vi res.1, vi res.2]) [.cells [.d (L60 b0x0), vi b0x1, .d (L60 b0x2), .d (L51 b0x3), vi b0x4, .d (L51 b0x5)]] := by
 refine HCall.of_awpS tt_ok (N := 24) (fl := 1) Try.func57 rfl (by kernel_rfl) rfl rfl (Nat.le_of_ble_eq_true rfl) ?_
 unfold F57v1 at h
 refine g0 [0, 1] [] [(0, .d (L51 l)), (1, .fn (.func 60) [] [.ref 0 0])] [.cells [.d (L60 b0x0), vi b0x1, .d (L60 b0x2), .d (L51 b0x3), vi b0x4, .d (L51 b0x5)]] ?_
 refine awp_seq (g0 [1, 9, 10, 11] [] [(1, .fn (.func 60) [] [.ref 0 0]), (9, .d (L51 l)), (10, vi (l.length : Int)), (11, vi 0)] [.cells [.d (L60 b0x0), vi b0x1, .d (L60 b0x2), .d (L51 b0x3), vi b0x4, .d (L51 b0x5)]] ?_)
 obtain ⟨o1, ho1, h⟩ := ob h
 refine awp_cut1 (OutQ (fun (ro1 : Int × Int) => [(4, vi ro1.1), (5, vi ro1.2)]) (fun (ro1 : Int × Int) => [.cells [.d (L60 b0x0), vi b0x1, .d (L60 b0x2), .d (L51 b0x3), vi b0x4, .d (L51 b0x5)]]) (fun (so1 : Unit) => []) (fun (so1 : Unit) => [.cells [.d (L60 b0x0), vi b0x1, .d (L60 b0x2), .d (L51 b0x3), vi b0x4, .d (L51 b0x5)]]) o1) ?_ ?_
 ·clear h
  have h := ho1
  clear ho1
  refine awp_selQ (gw 1 [1, 9, 10, 11] [(1, .fn (.func 60) [] [.ref 0 0]), (9, .d (L51 l)), (10, vi (l.length : Int)), (11, vi 0)] [.cells [.d (L60 b0x0), vi b0x1, .d (L60 b0x2), .d (L51 b0x3), vi b0x4, .d (L51 b0x5)]] ?_)
  refine awp_block (awp_loop (n := fuel) ?_)
  refine awpN_ind (fun n (c2 : Int) => F57v1L1 fuel l b0x0 b0x1 b0x2 b0x3 b0x4 b0x5 n c2) o1 (fun (c2 : Int) => [(1, .fn (.func 60) [] [.ref 0 0]), (9, .d (L51 l)), (10, vi (l.length : Int)), (11, vi c2)]) (fun (c2 : Int) => [.cells [.d (L60 b0x0), vi b0x1, .d (L60 b0x2), .d (L51 b0x3), vi b0x4, .d (L51 b0x5)]]) (fun _ => rfl) ?_ fuel 0 h
  clear h
  intro n3 c2 h hrn3
  change F57v1L1 fuel l b0x0 b0x1 b0x2 b0x3 b0x4 b0x5 (n3 + 1) c2 = some o1 at h
  rw [F57v1L1] at h
  refine g0 [1, 9, 10, 11, 12] [] [(1, .fn (.func 60) [] [.ref 0 0]), (9, .d (L51 l)), (10, vi (l.length : Int)), (11, vi c2), (12, vb (decide (c2 < (l.length : Int))))] [.cells [.d (L60 b0x0), vi b0x1, .d (L60 b0x2), .d (L51 b0x3), vi b0x4, .d (L51 b0x5)]] ?_
  refine awp_seq (awp_cond (b := (decide (c2 < (l.length : Int)))) (by kernel_rfl) (fun hb4 => ?_) (fun hb4 => ?_))
  ·rw [if_pos hb4] at h
   refine awp_skip ?_
   show awp ..
   refine awp_seq (awp_block ?_)
   obtain ⟨x5, hx5, h⟩ := ob h
   refine gr [1, 6, 7, 9, 10, 11] [.no, .cells (cel51 x5)] [(1, .fn (.func 60) [] [.ref 0 0]), (6, vi c2), (7, .ref 1 0), (9, .d (L51 l)), (10, vi (l.length : Int)), (11, vi c2)] [.cells [.d (L60 b0x0), vi b0x1, .d (L60 b0x2), .d (L51 b0x3), vi b0x4, .d (L51 b0x5)], .cells [vi x5.A, vi x5.B]] [IX51 l c2 x5] (idxOk cel51_len hx5) ?_
   obtain ⟨x6, hx6, h⟩ := ob h
   refine gr [1, 6, 8, 9, 10, 11] [.no, .no, .hcall [(0, false)] (vi x6) [.cells [.d (L60 b0x0), vi b0x1, .d (L60 b0x2), .d (L51 b0x3), vi b0x4, .d (L51 b0x5)]]] [(1, .fn (.func 60) [] [.ref 0 0]), (6, vi c2), (8, vi x6), (9, .d (L51 l)), (10, vi (l.length : Int)), (11, vi c2)] [.cells [.d (L60 b0x0), vi b0x1, .d (L60 b0x2), .d (L51 b0x3), vi b0x4, .d (L51 b0x5)], .cells [vi x5.A, vi x5.B]] [HCall Try.prog 60 [.d (.agg [(di x5.A), (di x5.B)]), .ref 0 0] [.cells [.d (L60 b0x0), vi b0x1, .d (L60 b0x2), .d (L51 b0x3), vi b0x4, .d (L51 b0x5)]] (vi x6) [.cells [.d (L60 b0x0), vi b0x1, .d (L60 b0x2), .d (L51 b0x3), vi b0x4, .d (L51 b0x5)]]] (ct60 hx6) ?_
   refine g0 [1, 6, 8, 9, 10, 11, 20] [] [(1, .fn (.func 60) [] [.ref 0 0]), (6, vi c2), (8, vi x6), (9, .d (L51 l)), (10, vi (l.length : Int)), (11, vi c2), (20, vb (x6 != 0))] [.cells [.d (L60 b0x0), vi b0x1, .d (L60 b0x2), .d (L51 b0x3), vi b0x4, .d (L51 b0x5)], .cells [vi x5.A, vi x5.B]] ?_
   refine awp_cond (b := (x6 != 0)) (by kernel_rfl) (fun hb7 => ?_) (fun hb7 => ?_)
   ·rw [if_pos hb7] at h
    refine g0 [4, 5] [] [(4, vi c2), (5, vi x6)] [.cells [.d (L60 b0x0), vi b0x1, .d (L60 b0x2), .d (L51 b0x3), vi b0x4, .d (L51 b0x5)], .cells [vi x5.A, vi x5.B]] ?_
    obtain rfl := Option.some.inj h
    refine gw 2 [4, 5] [(4, vi c2), (5, vi x6)] [.cells [.d (L60 b0x0), vi b0x1, .d (L60 b0x2), .d (L51 b0x3), vi b0x4, .d (L51 b0x5)], .cells [vi x5.A, vi x5.B]] ?_
    exact awp_ret (gs [0] [4, 5] OutQ.ret)
   ·rw [if_neg (ntrue hb7)] at h
    refine awp_skip ?_
    show awp ..
    refine x0 [1, 9, 10, 11] [] [(1, .fn (.func 60) [] [.ref 0 0]), (9, .d (L51 l)), (10, vi (l.length : Int)), (11, vi (w64 (c2 + 1)))] [.cells [.d (L60 b0x0), vi b0x1, .d (L60 b0x2), .d (L51 b0x3), vi b0x4, .d (L51 b0x5)], .cells [vi x5.A, vi x5.B]] ?_
    exact gn 1 [1, 9, 10, 11] (hrn3 (w64 (c2 + 1)) h)
  ·rw [if_neg (ntrue hb4)] at h
   refine awp_exit ?_
   obtain rfl := Option.some.inj h
   exact gs [0] [] OutQ.norm
 ·intro e T H hq
  cases o1 with
  | inl ro1 =>
   obtain ⟨rfl, rfl, rfl⟩ := hq
   rw [outK_inl] at h
   obtain rfl := Option.some.inj h
   exact (main_retS [0] (.tup [vi ro1.1, vi ro1.2]) (by kernel_rfl) (by kernel_rfl) (by kernel_rfl) (by kernel_rfl))
  | inr so1 =>
   obtain ⟨rfl, rfl, rfl⟩ := hq
   rw [outK_inr] at h
   show awp ..
   refine g0 [4, 5] [] [(4, vi 0), (5, vi 0)] [.cells [.d (L60 b0x0), vi b0x1, .d (L60 b0x2), .d (L51 b0x3), vi b0x4, .d (L51 b0x5)]] ?_
   obtain rfl := Option.some.inj h
   refine gw 1 [4, 5] [(4, vi 0), (5, vi 0)] [.cells [.d (L60 b0x0), vi b0x1, .d (L60 b0x2), .d (L51 b0x3), vi b0x4, .d (L51 b0x5)]] ?_
   exact awp_ret (main_retS [0] (.tup [vi 0, vi 0]) (by kernel_rfl) (by kernel_rfl) (by kernel_rfl) (by kernel_rfl))
theorem ct17 {fuel : Nat}  {p_m : S_api_ClMap} {res : Int × Int × Int} (h : F17 fuel p_m = some res) : PCall Try.prog 17 [(ma p_m)] (.tup [vi res.1, vi res.2.1, vi res.2.2]) := by
 refine PCall.of_awp tt_ok (N := 83) Try.func17 rfl (by kernel_rfl) rfl (Nat.le_of_ble_eq_true rfl) rfl ?_
 unfold F17 at h
 refine g0 [1] [] [(1, .ref 0 0)] [mc p_m] ?_
 refine awp_seq (awp_block ?_)
 obtain ⟨x1, hx1, h⟩ := ob h
 obtain ⟨x2, hx2, h⟩ := ob h
 refine gr [1, 5] [.no, .no, .no, .no, .call [(di 1), (di 5), (L3 ([(p_m.Borders.length : Int)] : List Int))] (vb x1), .no, .no, .no, .no, .no, .call [(di 1), (di 8), (L3 ([(p_m.Heights.length : Int)] : List Int))] (vb x2)] [(1, .ref 0 0), (5, vb (cond (cond (cond x1 true x2) true (decide ((p_m.Sides.length : Int) > 10))) true (decide ((p_m.Like.length : Int) > 8))))] [mc p_m] [PCall Try.prog 52 [(di 1), (di 5), (L3 ([(p_m.Borders.length : Int)] : List Int))] (vb x1), ((!x1) = true → (!x1) = true), ((!x1) = true → (!x1) = true), ((!x1) = true → (!x1) = true), ((!x1) = true → (!x1) = true), ((!x1) = true → PCall Try.prog 52 [(di 1), (di 8), (L3 ([(p_m.Heights.length : Int)] : List Int))] (vb x2)), (x1 = false → (!x1) = true), ((!(cond x1 true x2)) = true → (!(cond x1 true x2)) = true), ((!(cond x1 true x2)) = true → (!(cond x1 true x2)) = true), ((!(cond x1 true x2)) = true → (!(cond x1 true x2)) = true), ((cond x1 true x2) = false → (!(cond x1 true x2)) = true), ((!(cond (cond x1 true x2) true (decide ((p_m.Sides.length : Int) > 10)))) = true → (!(cond (cond x1 true x2) true (decide ((p_m.Sides.length : Int) > 10)))) = true), ((!(cond (cond x1 true x2) true (decide ((p_m.Sides.length : Int) > 10)))) = true → (!(cond (cond x1 true x2) true (decide ((p_m.Sides.length : Int) > 10)))) = true), ((!(cond (cond x1 true x2) true (decide ((p_m.Sides.length : Int) > 10)))) = true → (!(cond (cond x1 true x2) true (decide ((p_m.Sides.length : Int) > 10)))) = true), ((cond (cond x1 true x2) true (decide ((p_m.Sides.length : Int) > 10))) = false → (!(cond (cond x1 true x2) true (decide ((p_m.Sides.length : Int) > 10)))) = true)] (And.intro (ct52 hx1) (And.intro (id) (And.intro (id) (And.intro (id) (And.intro (id) (And.intro ((fun hg => ct52 (optG_of hx2 hg))) (And.intro (not_of) (And.intro (id) (And.intro (id) (And.intro (id) (And.intro (not_of) (And.intro (id) (And.intro (id) (And.intro (id) (not_of))))))))))))))) ?_
 refine awp_cond (b := (cond (cond (cond x1 true x2) true (decide ((p_m.Sides.length : Int) > 10))) true (decide ((p_m.Like.length : Int) > 8)))) (by kernel_rfl) (fun hb3 => ?_) (fun hb3 => ?_)
 ·rw [if_pos hb3] at h
  refine g0 [2, 3, 4] [] [(2, vi 1), (3, vi 0), (4, vi 3)] [mc p_m] ?_
  obtain rfl := Option.some.inj h
  refine gw 1 [2, 3, 4] [(2, vi 1), (3, vi 0), (4, vi 3)] [mc p_m] ?_
  exact awp_ret gm
 ·rw [if_neg (ntrue hb3)] at h
  obtain ⟨x4, hx4, h⟩ := ob h
  obtain ⟨x5, hx5, h⟩ := ob h
  refine gr [1, 30] [.no, .no, .no, .call [(di 1), (di 1000), (L3 ([p_m.Step] : List Int))] (vb x4), .no, .no, .no, .no, .call [(di 1), (di 6), (L3 ([p_m.Inks] : List Int))] (vb x5)] [(1, .ref 0 0), (30, vb (cond x4 true x5))] [mc p_m] [PCall Try.prog 52 [(di 1), (di 1000), (L3 ([p_m.Step] : List Int))] (vb x4), ((!x4) = true → (!x4) = true), ((!x4) = true → (!x4) = true), ((!x4) = true → (!x4) = true), ((!x4) = true → PCall Try.prog 52 [(di 1), (di 6), (L3 ([p_m.Inks] : List Int))] (vb x5)), (x4 = false → (!x4) = true)] (And.intro (ct52 hx4) (And.intro (id) (And.intro (id) (And.intro (id) (And.intro ((fun hg => ct52 (optG_of hx5 hg))) (not_of)))))) ?_
  refine awp_cond (b := (cond x4 true x5)) (by kernel_rfl) (fun hb6 => ?_) (fun hb6 => ?_)
  ·rw [if_pos hb6] at h
   refine g0 [2, 3, 4] [] [(2, vi 1), (3, vi 0), (4, vi 7)] [mc p_m] ?_
   obtain rfl := Option.some.inj h
   refine gw 1 [2, 3, 4] [(2, vi 1), (3, vi 0), (4, vi 7)] [mc p_m] ?_
   exact awp_ret gm
  ·rw [if_neg (ntrue hb6)] at h
   refine awp_skip ?_
   show awp ..
   refine awp_seq ?_
   obtain ⟨x7, hx7, h⟩ := ob h
   refine gr [1, 3, 4] [.no, .no, .hcall [] (.tup [vi x7.1, vi x7.2]) []] [(1, .ref 0 0), (3, vi x7.1), (4, vi x7.2)] [mc p_m] [HCall Try.prog 53 [.d (L60 p_m.Borders), .fn (.func 54) [] []] [] (.tup [vi x7.1, vi x7.2]) []] (ct53 hx7) ?_
   refine g0 [1, 3, 4, 48] [] [(1, .ref 0 0), (3, vi x7.1), (4, vi x7.2), (48, vb (x7.2 != 0))] [mc p_m] ?_
   refine awp_cond (b := (x7.2 != 0)) (by kernel_rfl) (fun hb8 => ?_) (fun hb8 => ?_)
   ·rw [if_pos hb8] at h
    refine g0 [2, 3, 4] [] [(2, vi 2), (3, vi x7.1), (4, vi x7.2)] [mc p_m] ?_
    obtain rfl := Option.some.inj h
    refine gw 1 [2, 3, 4] [(2, vi 2), (3, vi x7.1), (4, vi x7.2)] [mc p_m] ?_
    exact awp_ret gm
   ·rw [if_neg (ntrue hb8)] at h
    refine awp_skip ?_
    show awp ..
    refine awp_seq ?_
    obtain ⟨x9, hx9, h⟩ := ob h
    refine gr [1, 3, 4] [.no, .no, .hcall [] (.tup [vi x9.1, vi x9.2]) []] [(1, .ref 0 0), (3, vi x9.1), (4, vi x9.2)] [mc p_m] [HCall Try.prog 53 [.d (L60 p_m.Heights), .fn (.func 56) [] []] [] (.tup [vi x9.1, vi x9.2]) []] (ct53v1 hx9) ?_
    refine g0 [1, 3, 4, 58] [] [(1, .ref 0 0), (3, vi x9.1), (4, vi x9.2), (58, vb (x9.2 != 0))] [mc p_m] ?_
    refine awp_cond (b := (x9.2 != 0)) (by kernel_rfl) (fun hb10 => ?_) (fun hb10 => ?_)
    ·rw [if_pos hb10] at h
     refine g0 [2, 3, 4] [] [(2, vi 3), (3, vi x9.1), (4, vi x9.2)] [mc p_m] ?_
     obtain rfl := Option.some.inj h
     refine gw 1 [2, 3, 4] [(2, vi 3), (3, vi x9.1), (4, vi x9.2)] [mc p_m] ?_
     exact awp_ret gm
    ·rw [if_neg (ntrue hb10)] at h
     refine awp_skip ?_
     show awp ..
     refine awp_seq ?_
     obtain ⟨x11, hx11, h⟩ := ob h
     refine gr [1, 3, 4] [.no, .no, .no, .hcall [(0, false)] (.tup [vi x11.1, vi x11.2]) [mc p_m]] [(1, .ref 0 0), (3, vi x11.1), (4, vi x11.2)] [mc p_m] [HCall Try.prog 57 [.d (L51 p_m.Sides), .fn (.func 58) [] [.ref 0 0]] [mc p_m] (.tup [vi x11.1, vi x11.2]) [mc p_m]] (ct57 hx11) ?_
     refine g0 [1, 3, 4, 69] [] [(1, .ref 0 0), (3, vi x11.1), (4, vi x11.2), (69, vb (x11.2 != 0))] [mc p_m] ?_
     refine awp_cond (b := (x11.2 != 0)) (by kernel_rfl) (fun hb12 => ?_) (fun hb12 => ?_)
     ·rw [if_pos hb12] at h
      refine g0 [2, 3, 4] [] [(2, vi 4), (3, vi x11.1), (4, vi x11.2)] [mc p_m] ?_
      obtain rfl := Option.some.inj h
      refine gw 1 [2, 3, 4] [(2, vi 4), (3, vi x11.1), (4, vi x11.2)] [mc p_m] ?_
      exact awp_ret gm
     ·rw [if_neg (ntrue hb12)] at h
      refine awp_skip ?_
      show awp ..
      refine awp_seq ?_
      obtain ⟨x13, hx13, h⟩ := ob h
      refine gr [3, 4] [.no, .no, .no, .hcall [(0, false)] (.tup [vi x13.1, vi x13.2]) [mc p_m]] [(3, vi x13.1), (4, vi x13.2)] [mc p_m] [HCall Try.prog 57 [.d (L51 p_m.Like), .fn (.func 60) [] [.ref 0 0]] [mc p_m] (.tup [vi x13.1, vi x13.2]) [mc p_m]] (ct57v1 hx13) ?_
      refine g0 [3, 4, 80] [] [(3, vi x13.1), (4, vi x13.2), (80, vb (x13.2 != 0))] [mc p_m] ?_
      refine awp_cond (b := (x13.2 != 0)) (by kernel_rfl) (fun hb14 => ?_) (fun hb14 => ?_)
      ·rw [if_pos hb14] at h
       refine g0 [2, 3, 4] [] [(2, vi 5), (3, vi x13.1), (4, vi x13.2)] [mc p_m] ?_
       obtain rfl := Option.some.inj h
       refine gw 1 [2, 3, 4] [(2, vi 5), (3, vi x13.1), (4, vi x13.2)] [mc p_m] ?_
       exact awp_ret gm
      ·rw [if_neg (ntrue hb14)] at h
       refine awp_skip ?_
       show awp ..
       refine g0 [2, 3, 4] [] [(2, vi 0), (3, vi 0), (4, vi 0)] [mc p_m] ?_
       obtain rfl := Option.some.inj h
       refine gw 1 [2, 3, 4] [(2, vi 0), (3, vi 0), (4, vi 0)] [mc p_m] ?_
       exact awp_ret gm
theorem ct19 {fuel : Nat}  {p_m : S_api_ClMap} {legend : (List Int)} {res : Int × Int} (h : F19 fuel p_m legend = some res) : PCall Try.prog 19 [(ma p_m), (L3 legend)] (.tup [vi res.1, vi res.2]) := by
 refine PCall.of_awp tt_ok (N := 64) Try.func19 rfl (by kernel_rfl) rfl (Nat.le_of_ble_eq_true rfl) rfl ?_
 unfold F19 at h
 refine g0 [1, 2] [] [(1, .d (L3 legend)), (2, .ref 0 0)] [mc p_m] ?_
 refine awp_seq ?_
 obtain ⟨x1, hx1, h⟩ := ob h
 refine gr [1, 2, 5] [.no, .call [(ma p_m)] (.tup [vi x1.1, vi x1.2.1, vi x1.2.2])] [(1, .d (L3 legend)), (2, .ref 0 0), (5, vi x1.2.2)] [mc p_m] [PCall Try.prog 17 [(ma p_m)] (.tup [vi x1.1, vi x1.2.1, vi x1.2.2])] (ct17 hx1) ?_
 refine g0 [1, 2, 5, 15] [] [(1, .d (L3 legend)), (2, .ref 0 0), (5, vi x1.2.2), (15, vb (x1.2.2 != 0))] [mc p_m] ?_
 refine awp_cond (b := (x1.2.2 != 0)) (by kernel_rfl) (fun hb2 => ?_) (fun hb2 => ?_)
 ·rw [if_pos hb2] at h
  refine g0 [4, 5] [] [(4, vi 0), (5, vi x1.2.2)] [mc p_m] ?_
  obtain rfl := Option.some.inj h
  refine gw 1 [4, 5] [(4, vi 0), (5, vi x1.2.2)] [mc p_m] ?_
  exact awp_ret gm
 ·rw [if_neg (ntrue hb2)] at h
  refine awp_skip ?_
  show awp ..
  refine awp_seq (g0 [1, 2, 22] [] [(1, .d (L3 legend)), (2, .ref 0 0), (22, vb ((legend.length : Int) != (p_m.Borders.length : Int)))] [mc p_m] ?_)
  refine awp_cond (b := ((legend.length : Int) != (p_m.Borders.length : Int))) (by kernel_rfl) (fun hb3 => ?_) (fun hb3 => ?_)
  ·rw [if_pos hb3] at h
   refine g0 [4, 5] [] [(4, vi 0), (5, vi 3)] [mc p_m] ?_
   obtain rfl := Option.some.inj h
   refine gw 1 [4, 5] [(4, vi 0), (5, vi 3)] [mc p_m] ?_
   exact awp_ret gm
  ·rw [if_neg (ntrue hb3)] at h
   refine awp_skip ?_
   show awp ..
   refine awp_seq (g0 [1, 2, 23, 24, 25] [] [(1, .d (L3 legend)), (2, .ref 0 0), (23, .d (L3 legend)), (24, vi (legend.length : Int)), (25, vi 0)] [mc p_m] ?_)
   obtain ⟨o4, ho4, h⟩ := ob h
   refine awp_cut1 (OutQ (fun (ro4 : Int × Int) => [(4, vi ro4.1), (5, vi ro4.2)]) (fun (ro4 : Int × Int) => []) (fun (so4 : Unit) => []) (fun (so4 : Unit) => [mc p_m]) o4) ?_ ?_
   ·clear h
    have h := ho4
    clear ho4
    refine awp_selQ (gw 1 [1, 2, 23, 24, 25] [(1, .d (L3 legend)), (2, .ref 0 0), (23, .d (L3 legend)), (24, vi (legend.length : Int)), (25, vi 0)] [mc p_m] ?_)
    refine awp_block (awp_loop (n := fuel) ?_)
    refine awpN_ind (fun n (c5 : Int) => F19L1 fuel p_m legend n c5) o4 (fun (c5 : Int) => [(1, .d (L3 legend)), (2, .ref 0 0), (23, .d (L3 legend)), (24, vi (legend.length : Int)), (25, vi c5)]) (fun (c5 : Int) => [mc p_m]) (fun _ => rfl) ?_ fuel 0 h
    clear h
    intro n6 c5 h hrn6
    change F19L1 fuel p_m legend (n6 + 1) c5 = some o4 at h
    rw [F19L1] at h
    refine g0 [1, 2, 23, 24, 25, 26] [] [(1, .d (L3 legend)), (2, .ref 0 0), (23, .d (L3 legend)), (24, vi (legend.length : Int)), (25, vi c5), (26, vb (decide (c5 < (legend.length : Int))))] [mc p_m] ?_
    refine awp_seq (awp_cond (b := (decide (c5 < (legend.length : Int)))) (by kernel_rfl) (fun hb7 => ?_) (fun hb7 => ?_))
    ·rw [if_pos hb7] at h
     refine awp_skip ?_
     show awp ..
     refine awp_seq (awp_block ?_)
     obtain ⟨x8, hx8, h⟩ := ob h
     refine gr [1, 2, 6, 7, 23, 24, 25] [.no, .cells (cel3 x8)] [(1, .d (L3 legend)), (2, .ref 0 0), (6, vi c5), (7, vi x8), (23, .d (L3 legend)), (24, vi (legend.length : Int)), (25, vi c5)] [mc p_m] [IX3 legend c5 x8] (idxOk cel3_len hx8) ?_
     refine awp_block ?_
     obtain ⟨x9, hx9, h⟩ := ob h
     obtain ⟨x10, hx10, h⟩ := ob h
     obtain ⟨x11, hx11, h⟩ := ob h
     refine awp_sdraw tt_ok mixed (ks := [1, 2, 6, 7, 23, 24, 25, 30]) (hs := [.no, .no, .no, .cells (cel60 x9), .no, .no, .no, .no, .no, .cells (cel60 x10), .no, .no, .no, .no, .call [(di x9.Lo), (di x10.Hi), (L3 ([x8] : List Int))] (vb x11)]) 14 [1, 2, 6, 7, 23, 24, 25, 30, 36, 42, 44, 45] [(1, .d (L3 legend)), (2, .ref 0 0), (6, vi c5), (7, vi x8), (23, .d (L3 legend)), (24, vi (legend.length : Int)), (25, vi c5), (30, vb x11)] [mc p_m] [IX60 p_m.Borders c5 x9, IX60 p_m.Borders c5 x10, PCall Try.prog 52 [(di x9.Lo), (di x10.Hi), (L3 ([x8] : List Int))] (vb x11)] (by kernel_rfl) (And.intro (idxOk cel60_len hx9) (And.intro (idxOk cel60_len hx10) (ct52 hx11))) ?_
     refine awp_cond (b := x11) (by kernel_rfl) (fun hb12 => ?_) (fun hb12 => ?_)
     ·rw [if_pos hb12] at h
      refine g0 [4, 5] [] [(4, vi c5), (5, vi 7)] [mc p_m] ?_
      obtain rfl := Option.some.inj h
      refine gw 1 [4, 5] [(4, vi c5), (5, vi 7)] [mc p_m] ?_
      exact awp_ret (gs [] [4, 5] OutQ.ret)
     ·rw [if_neg (ntrue hb12)] at h
      obtain ⟨x13, hx13, h⟩ := ob h
      refine awp_sdraw tt_ok mixed (ks := [1, 2, 6, 23, 24, 25, 47]) (hs := [.no, .no, .no, .no, .no, .no, .no, .cells (cel3 x13)]) 12 [1, 2, 6, 23, 24, 25, 47, 50, 51, 59, 60, 61] [(1, .d (L3 legend)), (2, .ref 0 0), (6, vi c5), (23, .d (L3 legend)), (24, vi (legend.length : Int)), (25, vi c5), (47, vb (cond (decide (c5 > 0)) (decide (x8 < (w64 (x13 + p_m.Step)))) false))] [mc p_m] [((decide (c5 > 0)) = true → (decide (c5 > 0)) = true), ((decide (c5 > 0)) = true → (decide (c5 > 0)) = true), ((decide (c5 > 0)) = true → (decide (c5 > 0)) = true), ((decide (c5 > 0)) = true → IX3 legend (w64 (c5 - 1)) x13), ((decide (c5 > 0)) = true → (decide (c5 > 0)) = true), ((decide (c5 > 0)) = true → (decide (c5 > 0)) = true), ((decide (c5 > 0)) = true → (decide (c5 > 0)) = true), ((decide (c5 > 0)) = true → (decide (c5 > 0)) = true), ((decide (c5 > 0)) = true → (decide (c5 > 0)) = true), ((decide (c5 > 0)) = true → (decide (c5 > 0)) = true), ((decide (c5 > 0)) = true → (decide (c5 > 0)) = true)] (by kernel_rfl) (And.intro (id) (And.intro (id) (And.intro (id) (And.intro ((fun hg => idxOk cel3_len (optG_of hx13 hg))) (And.intro (id) (And.intro (id) (And.intro (id) (And.intro (id) (And.intro (id) (And.intro (id) (id))))))))))) ?_
      refine awp_cond (b := (cond (decide (c5 > 0)) (decide (x8 < (w64 (x13 + p_m.Step)))) false)) (by kernel_rfl) (fun hb14 => ?_) (fun hb14 => ?_)
      ·rw [if_pos hb14] at h
       refine g0 [4, 5] [] [(4, vi c5), (5, vi 2)] [mc p_m] ?_
       obtain rfl := Option.some.inj h
       refine gw 1 [4, 5] [(4, vi c5), (5, vi 2)] [mc p_m] ?_
       exact awp_ret (gs [] [4, 5] OutQ.ret)
      ·rw [if_neg (ntrue hb14)] at h
       refine awp_skip ?_
       show awp ..
       refine x0 [1, 2, 23, 24, 25] [] [(1, .d (L3 legend)), (2, .ref 0 0), (23, .d (L3 legend)), (24, vi (legend.length : Int)), (25, vi (w64 (c5 + 1)))] [mc p_m] ?_
       exact gn 1 [1, 2, 23, 24, 25] (hrn6 (w64 (c5 + 1)) h)
    ·rw [if_neg (ntrue hb7)] at h
     refine awp_exit ?_
     obtain rfl := Option.some.inj h
     exact gs [0] [] OutQ.norm
   ·intro e T H hq
    cases o4 with
    | inl ro4 =>
     obtain ⟨rfl, rfl, rfl⟩ := hq
     rw [outK_inl] at h
     obtain rfl := Option.some.inj h
     exact gm
    | inr so4 =>
     obtain ⟨rfl, rfl, rfl⟩ := hq
     rw [outK_inr] at h
     show awp ..
     refine g0 [4, 5] [] [(4, vi 0), (5, vi 0)] [mc p_m] ?_
     obtain rfl := Option.some.inj h
     refine gw 1 [4, 5] [(4, vi 0), (5, vi 0)] [mc p_m] ?_
     exact awp_ret gm
theorem ct96  {p_x : Int} {res : Bool} (h : F96 p_x = some res) : PCall Try.prog 96 [(di p_x)] (vb res) := by
 refine PCall.of_awp tt_ok (N := 6) Try.func96 rfl (by kernel_rfl) rfl (Nat.le_of_ble_eq_true rfl) rfl ?_
 unfold F96 at h
 refine g0 [0] [] [(0, vi p_x)] [] ?_
 refine g0 [2] [] [(2, vb (p_x != p_x))] [] ?_
 obtain rfl := Option.some.inj h
 refine gw 0 [2] [(2, vb (p_x != p_x))] [] ?_
 exact awp_ret gm
theorem ct94  {p_x : Int} {y : Int} {res : Bool} (h : F94 p_x y = some res) : PCall Try.prog 94 [(di p_x), (di y)] (vb res) := by
 refine PCall.of_awp tt_ok (N := 17) Try.func94 rfl (by kernel_rfl) rfl (Nat.le_of_ble_eq_true rfl) rfl ?_
 unfold F94 at h
 refine g0 [0, 1] [] [(0, vi p_x), (1, vi y)] [] ?_
 obtain ⟨x1, hx1, h⟩ := ob h
 obtain ⟨x2, hx2, h⟩ := ob h
 refine gr [4] [.no, .call [(di p_x)] (vb x1), .no, .no, .call [(di y)] (vb x2)] [(4, vb (cond (cond x1 (!x2) false) true (decide (p_x < y))))] [] [PCall Try.prog 96 [(di p_x)] (vb x1), (x1 = true → x1 = true), (x1 = true → PCall Try.prog 96 [(di y)] (vb x2)), (x1 = true → x1 = true), (x1 = true → x1 = true), ((!(cond x1 (!x2) false)) = true → (!(cond x1 (!x2) false)) = true), ((!(cond x1 (!x2) false)) = true → (!(cond x1 (!x2) false)) = true), ((cond x1 (!x2) false) = false → (!(cond x1 (!x2) false)) = true)] (And.intro (ct96 hx1) (And.intro (id) (And.intro ((fun hg => ct96 (optG_of hx2 hg))) (And.intro (id) (And.intro (id) (And.intro (id) (And.intro (id) (not_of)))))))) ?_
 obtain rfl := Option.some.inj h
 refine gw 0 [4] [(4, vb (cond (cond x1 (!x2) false) true (decide (p_x < y))))] [] ?_
 exact awp_ret gm
theorem ct95  {p_x : Int} {res : Bool} (h : F95 p_x = some res) : PCall Try.prog 95 [(di p_x)] (vb res) := by
 refine PCall.of_awp tt_ok (N := 6) Try.func95 rfl (by kernel_rfl) rfl (Nat.le_of_ble_eq_true rfl) rfl ?_
 unfold F95 at h
 refine g0 [0] [] [(0, vi p_x)] [] ?_
 refine g0 [2] [] [(2, vb (p_x != p_x))] [] ?_
 obtain rfl := Option.some.inj h
 refine gw 0 [2] [(2, vb (p_x != p_x))] [] ?_
 exact awp_ret gm
theorem ct92 {fuel : Nat}  {p_x : (List Int)} {target : Int} {res : Int × Bool} (h : F92 fuel p_x target = some res) : PCall Try.prog 92 [(L3 p_x), (di target)] (.tup [vi res.1, vb res.2]) := by
 refine PCall.of_awp tt_ok (N := 54) Try.func92 rfl (by kernel_rfl) rfl (Nat.le_of_ble_eq_true rfl) rfl ?_
 unfold F92 at h
 refine g0 [0, 1] [] [(0, .d (L3 p_x)), (1, vi target)] [] ?_
 refine g0 [0, 1, 6] [] [(0, .d (L3 p_x)), (1, vi target), (6, vi (p_x.length : Int))] [] ?_
 refine g0 [0, 1, 6, 7, 8] [] [(0, .d (L3 p_x)), (1, vi target), (6, vi (p_x.length : Int)), (7, vi 0), (8, vi (p_x.length : Int))] [] ?_
 refine awp_seq ?_
 obtain ⟨o1, ho1, h⟩ := ob h
 refine awp_cut1 (OutQ (fun (ro1 : Int × Bool) => [(4, vi ro1.1), (5, vb ro1.2)]) (fun (ro1 : Int × Bool) => []) (fun (so1 : Int) => [(0, .d (L3 p_x)), (1, vi target), (6, vi (p_x.length : Int)), (7, vi so1)]) (fun (so1 : Int) => []) o1) ?_ ?_
 ·clear h
  have h := ho1
  clear ho1
  refine awp_selQ (gw 0 [0, 1, 6, 7, 8] [(0, .d (L3 p_x)), (1, vi target), (6, vi (p_x.length : Int)), (7, vi 0), (8, vi (p_x.length : Int))] [] ?_)
  refine awp_block (awp_loop (n := fuel) ?_)
  refine awpN_ind (fun n (c2 : Int × Int) => F92L1 p_x target n c2) o1 (fun (c2 : Int × Int) => [(0, .d (L3 p_x)), (1, vi target), (6, vi (p_x.length : Int)), (7, vi c2.1), (8, vi c2.2)]) (fun (c2 : Int × Int) => []) (fun _ => rfl) ?_ fuel (0, (p_x.length : Int)) h
  clear h
  intro n3 c2 h hrn3
  change F92L1 p_x target (n3 + 1) c2 = some o1 at h
  rw [F92L1] at h
  refine awp_seq (g0 [0, 1, 6, 7, 8, 15] [] [(0, .d (L3 p_x)), (1, vi target), (6, vi (p_x.length : Int)), (7, vi c2.1), (8, vi c2.2), (15, vb (decide (c2.1 < c2.2)))] [] ?_)
  refine awp_cond (b := (decide (c2.1 < c2.2))) (by kernel_rfl) (fun hb4 => ?_) (fun hb4 => ?_)
  ·rw [if_pos hb4] at h
   refine awp_skip ?_
   show awp ..
   refine awp_block (gr [0, 1, 6, 7, 8, 9] [] [(0, .d (L3 p_x)), (1, vi target), (6, vi (p_x.length : Int)), (7, vi c2.1), (8, vi c2.2), (9, vi (IntKind.i64.wrap ((IntKind.u64.wrap (w64 (c2.1 + c2.2))) / 2 ^ min (1 : Int).toNat 64)))] [] [(0 ≤ (1 : Int))] ((by decide : 0 ≤ (1 : Int))) ?_)
   obtain ⟨x5, hx5, h⟩ := ob h
   obtain ⟨x6, hx6, h⟩ := ob h
   refine gr [0, 1, 6, 7, 8, 9, 27] [.no, .no, .cells (cel3 x5), .no, .no, .call [(di x5), (di target)] (vb x6)] [(0, .d (L3 p_x)), (1, vi target), (6, vi (p_x.length : Int)), (7, vi c2.1), (8, vi c2.2), (9, vi (IntKind.i64.wrap ((IntKind.u64.wrap (w64 (c2.1 + c2.2))) / 2 ^ min (1 : Int).toNat 64))), (27, vb x6)] [] [IX3 p_x (IntKind.i64.wrap ((IntKind.u64.wrap (w64 (c2.1 + c2.2))) / 2 ^ min (1 : Int).toNat 64)) x5, PCall Try.prog 94 [(di x5), (di target)] (vb x6)] (And.intro (idxOk cel3_len hx5) (ct94 hx6)) ?_
   refine awp_cond (b := x6) (by kernel_rfl) (fun hb7 => ?_) (fun hb7 => ?_)
   ·rw [if_pos hb7] at h
    refine x0 [0, 1, 6, 7, 8] [] [(0, .d (L3 p_x)), (1, vi target), (6, vi (p_x.length : Int)), (7, vi (w64 ((IntKind.i64.wrap ((IntKind.u64.wrap (w64 (c2.1 + c2.2))) / 2 ^ min (1 : Int).toNat 64)) + 1))), (8, vi c2.2)] [] ?_
    exact gn 0 [0, 1, 6, 7, 8] (hrn3 ((w64 ((IntKind.i64.wrap ((IntKind.u64.wrap (w64 (c2.1 + c2.2))) / 2 ^ min (1 : Int).toNat 64)) + 1)), c2.2) h)
   ·rw [if_neg (ntrue hb7)] at h
    refine x0 [0, 1, 6, 7, 8] [] [(0, .d (L3 p_x)), (1, vi target), (6, vi (p_x.length : Int)), (7, vi c2.1), (8, vi (IntKind.i64.wrap ((IntKind.u64.wrap (w64 (c2.1 + c2.2))) / 2 ^ min (1 : Int).toNat 64)))] [] ?_
    exact gn 0 [0, 1, 6, 7, 8] (hrn3 (c2.1, (IntKind.i64.wrap ((IntKind.u64.wrap (w64 (c2.1 + c2.2))) / 2 ^ min (1 : Int).toNat 64))) h)
  ·rw [if_neg (ntrue hb4)] at h
   refine awp_exit ?_
   obtain rfl := Option.some.inj h
   exact gs [] [0, 1, 6, 7] OutQ.norm
 ·intro e T H hq
  cases o1 with
  | inl ro1 =>
   obtain ⟨rfl, rfl, rfl⟩ := hq
   rw [outK_inl] at h
   obtain rfl := Option.some.inj h
   exact gm
  | inr so1 =>
   obtain ⟨rfl, rfl, rfl⟩ := hq
   rw [outK_inr] at h
   show awp ..
   obtain ⟨x8, hx8, h⟩ := ob h
   obtain ⟨x9, hx9, h⟩ := ob h
   obtain ⟨x10, hx10, h⟩ := ob h
   obtain ⟨x11, hx11, h⟩ := ob h
   refine gr [4, 5] [.no, .no, .no, .no, .no, .no, .no, .cells (cel3 x8), .no, .no, .no, .no, .no, .no, .cells (cel3 x9), .no, .call [(di x9)] (vb x10), .no, .no, .call [(di target)] (vb x11), .own, .own] [(4, vi so1), (5, vb (cond (decide (so1 < (p_x.length : Int))) (cond (x8 == target) true (cond x10 x11 false)) false))] [] [((decide (so1 < (p_x.length : Int))) = true → (decide (so1 < (p_x.length : Int))) = true), ((decide (so1 < (p_x.length : Int))) = true → (decide (so1 < (p_x.length : Int))) = true), ((decide (so1 < (p_x.length : Int))) = true → IX3 p_x so1 x8), ((decide (so1 < (p_x.length : Int))) = true → (decide (so1 < (p_x.length : Int))) = true), ((decide (so1 < (p_x.length : Int))) = true → (decide (so1 < (p_x.length : Int))) = true), ((decide (so1 < (p_x.length : Int))) = true → (decide (so1 < (p_x.length : Int))) = true), ((decide (so1 < (p_x.length : Int))) = true → (decide (so1 < (p_x.length : Int))) = true), (((decide (so1 < (p_x.length : Int))) && (!(x8 == target))) = true → ((decide (so1 < (p_x.length : Int))) && (!(x8 == target))) = true), (((decide (so1 < (p_x.length : Int))) && (!(x8 == target))) = true → ((decide (so1 < (p_x.length : Int))) && (!(x8 == target))) = true), (((decide (so1 < (p_x.length : Int))) && (!(x8 == target))) = true → IX3 p_x so1 x9), (((decide (so1 < (p_x.length : Int))) && (!(x8 == target))) = true → ((decide (so1 < (p_x.length : Int))) && (!(x8 == target))) = true), (((decide (so1 < (p_x.length : Int))) && (!(x8 == target))) = true → ((decide (so1 < (p_x.length : Int))) && (!(x8 == target))) = true), (((decide (so1 < (p_x.length : Int))) && (!(x8 == target))) = true → PCall Try.prog 95 [(di x9)] (vb x10)), (((decide (so1 < (p_x.length : Int))) && (!(x8 == target))) = true → ((decide (so1 < (p_x.length : Int))) && (!(x8 == target))) = true), ((((decide (so1 < (p_x.length : Int))) && (!(x8 == target))) && x10) = true → (((decide (so1 < (p_x.length : Int))) && (!(x8 == target))) && x10) = true), ((((decide (so1 < (p_x.length : Int))) && (!(x8 == target))) && x10) = true → PCall Try.prog 95 [(di target)] (vb x11)), (((decide (so1 < (p_x.length : Int))) && (!(x8 == target))) = true → ((decide (so1 < (p_x.length : Int))) && (!(x8 == target))) = true), (((decide (so1 < (p_x.length : Int))) && (!(x8 == target))) = true → x10 = true → (((decide (so1 < (p_x.length : Int))) && (!(x8 == target))) && x10) = true), ((decide (so1 < (p_x.length : Int))) = true → (decide (so1 < (p_x.length : Int))) = true), ((decide (so1 < (p_x.length : Int))) = true → (x8 == target) = false → ((decide (so1 < (p_x.length : Int))) && (!(x8 == target))) = true), ((decide (so1 < (p_x.length : Int))) = true → (decide (so1 < (p_x.length : Int))) = true)] (And.intro (id) (And.intro (id) (And.intro ((fun hg => idxOk cel3_len (optG_of hx8 hg))) (And.intro (id) (And.intro (id) (And.intro (id) (And.intro (id) (And.intro (id) (And.intro (id) (And.intro ((fun hg => idxOk cel3_len (optG_of hx9 hg))) (And.intro (id) (And.intro (id) (And.intro ((fun hg => ct95 (optG_of hx10 hg))) (And.intro (id) (And.intro (id) (And.intro ((fun hg => ct95 (optG_of hx11 hg))) (And.intro (id) (And.intro ((fun hg h1 => by first | exact hg | exact h1 | (rw [hg, h1]; rfl) | (simp only [hg, h1, Bool.not_true, Bool.not_false, Bool.and_self, Bool.true_and, Bool.and_true]; done) | (simp only [Bool.and_eq_true] at hg; simp only [hg, h1, Bool.not_true, Bool.not_false, Bool.and_self, Bool.true_and, Bool.and_true]; done) | simp_all)) (And.intro (id) (And.intro ((fun hg h1 => by first | exact hg | exact h1 | (rw [hg, h1]; rfl) | (simp only [hg, h1, Bool.not_true, Bool.not_false, Bool.and_self, Bool.true_and, Bool.and_true]; done) | (simp only [Bool.and_eq_true] at hg; simp only [hg, h1, Bool.not_true, Bool.not_false, Bool.and_self, Bool.true_and, Bool.and_true]; done) | simp_all)) (id))))))))))))))))))))) ?_
   obtain rfl := Option.some.inj h
   refine gw 0 [4, 5] [(4, vi so1), (5, vb (cond (decide (so1 < (p_x.length : Int))) (cond (x8 == target) true (cond x10 x11 false)) false))] [] ?_
   exact awp_ret gm
theorem ct82v1 {fuel : Nat}  {high : Int} {b0x0 : List S_api_Span} {b0x1 : Int} {b0x2 : List S_api_Span} {b0x3 : List S_api_ClPair} {b0x4 : Int} {b0x5 : List S_api_ClPair} {b0x6 : List Int} {b0x8 : List Int} {a1 : List S_api_Span} {res : Int} (h : F82v1 fuel high b0x0 b0x1 b0x2 b0x3 b0x4 b0x5 b0x6 b0x8 a1 = some res) : HCall Try.prog 82 [.ref 0 0, vi high] [.vec [.d (L60 b0x0), vi b0x1, .d (L60 b0x2), .d (L51 b0x3), vi b0x4, .d (L51 b0x5), .d (L3 b0x6), .sl 2 1 0 a1.length] b0x8, .fixed (a1.flatMap cel60)] (vi res) [.vec [.d (L60 b0x0), vi b0x1, .d (L60 b0x2), .d (L51 b0x3), vi b0x4, .d (L51 b0x5), .d (L3 b0x6), .sl 2 1 0 a1.length] b0x8, .fixed (a1.flatMap cel60)] := by
 refine HCall.of_awpS tt_ok (N := 20) (fl := 2) Try.func82 rfl (by kernel_rfl) rfl rfl (Nat.le_of_ble_eq_true rfl) ?_
 unfold F82v1 at h
 refine g0 [0, 1] [] [(0, .ref 0 0), (1, vi high)] [.vec [.d (L60 b0x0), vi b0x1, .d (L60 b0x2), .d (L51 b0x3), vi b0x4, .d (L51 b0x5), .d (L3 b0x6), .sl 2 1 0 a1.length] b0x8, .fixed (a1.flatMap cel60)] ?_
 obtain ⟨x1, hx1, h⟩ := ob h
 refine gr [5, 6] [.no, .no, .no, .no, .no, .call [(L3 b0x6), (di high)] (.tup [vi x1.1, vb x1.2])] [(5, vi x1.1), (6, vb x1.2)] [.vec [.d (L60 b0x0), vi b0x1, .d (L60 b0x2), .d (L51 b0x3), vi b0x4, .d (L51 b0x5), .d (L3 b0x6), .sl 2 1 0 a1.length] b0x8, .fixed (a1.flatMap cel60)] [PCall Try.prog 92 [(L3 b0x6), (di high)] (.tup [vi x1.1, vb x1.2])] (ct92 hx1) ?_
 refine awp_seq (g0 [5, 16] [] [(5, vi x1.1), (16, vb x1.2)] [.vec [.d (L60 b0x0), vi b0x1, .d (L60 b0x2), .d (L51 b0x3), vi b0x4, .d (L51 b0x5), .d (L3 b0x6), .sl 2 1 0 a1.length] b0x8, .fixed (a1.flatMap cel60)] ?_)
 refine awp_cond (b := x1.2) (by kernel_rfl) (fun hb2 => ?_) (fun hb2 => ?_)
 ·rw [if_pos hb2] at h
  refine x0 [5] [] [(5, vi (w64 (x1.1 + 1)))] [.vec [.d (L60 b0x0), vi b0x1, .d (L60 b0x2), .d (L51 b0x3), vi b0x4, .d (L51 b0x5), .d (L3 b0x6), .sl 2 1 0 a1.length] b0x8, .fixed (a1.flatMap cel60)] ?_
  show awp ..
  refine g0 [4] [] [(4, vi (w64 (x1.1 + 1)))] [.vec [.d (L60 b0x0), vi b0x1, .d (L60 b0x2), .d (L51 b0x3), vi b0x4, .d (L51 b0x5), .d (L3 b0x6), .sl 2 1 0 a1.length] b0x8, .fixed (a1.flatMap cel60)] ?_
  obtain rfl := Option.some.inj h
  refine gw 2 [4] [(4, vi (w64 (x1.1 + 1)))] [.vec [.d (L60 b0x0), vi b0x1, .d (L60 b0x2), .d (L51 b0x3), vi b0x4, .d (L51 b0x5), .d (L3 b0x6), .sl 2 1 0 a1.length] b0x8, .fixed (a1.flatMap cel60)] ?_
  exact awp_ret (main_retS [0, 1] (vi (w64 (x1.1 + 1))) (by kernel_rfl) (by kernel_rfl) (by kernel_rfl) (by kernel_rfl))
 ·rw [if_neg (ntrue hb2)] at h
  refine awp_skip ?_
  show awp ..
  refine g0 [4] [] [(4, vi x1.1)] [.vec [.d (L60 b0x0), vi b0x1, .d (L60 b0x2), .d (L51 b0x3), vi b0x4, .d (L51 b0x5), .d (L3 b0x6), .sl 2 1 0 a1.length] b0x8, .fixed (a1.flatMap cel60)] ?_
  obtain rfl := Option.some.inj h
  refine gw 2 [4] [(4, vi x1.1)] [.vec [.d (L60 b0x0), vi b0x1, .d (L60 b0x2), .d (L51 b0x3), vi b0x4, .d (L51 b0x5), .d (L3 b0x6), .sl 2 1 0 a1.length] b0x8, .fixed (a1.flatMap cel60)] ?_
  exact awp_ret (main_retS [0, 1] (vi x1.1) (by kernel_rfl) (by kernel_rfl) (by kernel_rfl) (by kernel_rfl))
theorem ct72  {p_s : S_api_ClPair} {b0x0 : List S_api_Span} {b0x1 : Int} {b0x2 : List S_api_Span} {b0x3 : List S_api_ClPair} {b0x4 : Int} {b0x5 : List S_api_ClPair} {b0x6 : List Int} {b0x8 : List Int} {a1 : List S_api_Span} {res : Int × Int} (h : F72 p_s b0x0 b0x1 b0x2 b0x3 b0x4 b0x5 b0x6 b0x8 a1 = some res) : HCall Try.prog 72 [.ref 0 0, .d (.agg [(di p_s.A), (di p_s.B)])] [.vec [.d (L60 b0x0), vi b0x1, .d (L60 b0x2), .d (L51 b0x3), vi b0x4, .d (L51 b0x5), .d (L3 b0x6), .sl 2 1 0 a1.length] b0x8, .fixed (a1.flatMap cel60)] (.fn (.func 88) [] [.ref 2 0, .ref 3 0]) [.vec [.d (L60 b0x0), vi b0x1, .d (L60 b0x2), .d (L51 b0x3), vi b0x4, .d (L51 b0x5), .d (L3 b0x6), .sl 2 1 0 a1.length] b0x8, .fixed (a1.flatMap cel60), .cells [.ref 0 0], .cells [vi res.1, vi res.2]] := by
 refine HCall.of_awpS tt_ok (N := 6) (fl := 2) Try.func72 rfl (by kernel_rfl) rfl rfl (Nat.le_of_ble_eq_true rfl) ?_
 unfold F72 at h
 refine g0 [2, 3] [] [(2, .ref 2 0), (3, .ref 3 0)] [.vec [.d (L60 b0x0), vi b0x1, .d (L60 b0x2), .d (L51 b0x3), vi b0x4, .d (L51 b0x5), .d (L3 b0x6), .sl 2 1 0 a1.length] b0x8, .fixed (a1.flatMap cel60), .cells [.ref 0 0], .cells [vi p_s.A, vi p_s.B]] ?_
 refine g0 [4] [] [(4, .fn (.func 88) [] [.ref 2 0, .ref 3 0])] [.vec [.d (L60 b0x0), vi b0x1, .d (L60 b0x2), .d (L51 b0x3), vi b0x4, .d (L51 b0x5), .d (L3 b0x6), .sl 2 1 0 a1.length] b0x8, .fixed (a1.flatMap cel60), .cells [.ref 0 0], .cells [vi p_s.A, vi p_s.B]] ?_
 obtain rfl := Option.some.inj h
 refine gw 4 [4] [(4, .fn (.func 88) [] [.ref 2 0, .ref 3 0])] [.vec [.d (L60 b0x0), vi b0x1, .d (L60 b0x2), .d (L51 b0x3), vi b0x4, .d (L51 b0x5), .d (L3 b0x6), .sl 2 1 0 a1.length] b0x8, .fixed (a1.flatMap cel60), .cells [.ref 0 0], .cells [vi p_s.A, vi p_s.B]] ?_
 exact awp_ret (main_retS [0, 1, 2, 3] (.fn (.func 88) [] [.ref 2 0, .ref 3 0]) (by kernel_rfl) (by kernel_rfl) (by kernel_rfl) (by kernel_rfl))
theorem ct64r  {y1 : Int} {y2 : Int} {b2x0 : List S_api_Span} {b2x1 : Int} {b2x2 : List S_api_Span} {b2x3 : List S_api_ClPair} {b2x4 : Int} {b2x5 : List S_api_ClPair} {b2x6 : List Int} {b2x8 : List Int} {a3 : List S_api_Span} {res : (List Int)} (h : F64r y1 y2 b2x0 b2x1 b2x2 b2x3 b2x4 b2x5 b2x6 b2x8 a3 = some res) : YCall Try.prog [.yld 0, vi y1, vi y2] [.loop (some none) [73, 74] asn64x0 bdy64x0 158 [(8, .ref 1 0)], .cells [.ref 2 0], .vec [.d (L60 b2x0), vi b2x1, .d (L60 b2x2), .d (L51 b2x3), vi b2x4, .d (L51 b2x5), .d (L3 b2x6), .sl 2 3 0 a3.length] b2x8, .fixed (a3.flatMap cel60)] (vb true) [.loop (some none) [73, 74] asn64x0 bdy64x0 158 [(8, .ref 1 0)], .cells [.ref 2 0], .vec [.d (L60 b2x0), vi b2x1, .d (L60 b2x2), .d (L51 b2x3), vi b2x4, .d (L51 b2x5), .d (L3 b2x6), .sl 2 3 0 a3.length] res, .fixed (a3.flatMap cel60)] := by
 refine YCall.of_awp (N := 158) (k := 0) (ps := [73, 74]) (asg := asn64x0) (bd := bdy64x0) (Tl := [(8, .ref 1 0)]) rfl (by kernel_rfl) rfl ?_
 refine awp_eq (T' := [(74, vi y2), (73, vi y1), (8, .ref 1 0)]) (H' := [.loop (some none) [73, 74] asn64x0 bdy64x0 158 [(8, .ref 1 0)], .cells [.ref 2 0], .vec [.d (L60 b2x0), vi b2x1, .d (L60 b2x2), .d (L51 b2x3), vi b2x4, .d (L51 b2x5), .d (L3 b2x6), .sl 2 3 0 a3.length] b2x8, .fixed (a3.flatMap cel60)]) (by kernel_rfl) rfl ?_
 change awp _ _ _ _ asn64x0 _ _ _
 unfold F64r at h
 refine g0 [8, 13, 74] [] [(8, .ref 1 0), (13, vi y1), (74, vi y2)] [.loop (some none) [73, 74] asn64x0 bdy64x0 158 [(8, .ref 1 0)], .cells [.ref 2 0], .vec [.d (L60 b2x0), vi b2x1, .d (L60 b2x2), .d (L51 b2x3), vi b2x4, .d (L51 b2x5), .d (L3 b2x6), .sl 2 3 0 a3.length] b2x8, .fixed (a3.flatMap cel60)] ?_
 refine x0 [8, 13, 14] [] [(8, .ref 1 0), (13, vi y1), (14, vi y2)] [.loop (some none) [73, 74] asn64x0 bdy64x0 158 [(8, .ref 1 0)], .cells [.ref 2 0], .vec [.d (L60 b2x0), vi b2x1, .d (L60 b2x2), .d (L51 b2x3), vi b2x4, .d (L51 b2x5), .d (L3 b2x6), .sl 2 3 0 a3.length] b2x8, .fixed (a3.flatMap cel60)] ?_
 refine ⟨rfl, by kernel_rfl, ?_⟩
 refine awp_eq (T' := [(8, .ref 1 0), (13, vi y1), (14, vi y2)]) (H' := [.loop (none) [73, 74] asn64x0 bdy64x0 158 [(8, .ref 1 0)], .cells [.ref 2 0], .vec [.d (L60 b2x0), vi b2x1, .d (L60 b2x2), .d (L51 b2x3), vi b2x4, .d (L51 b2x5), .d (L3 b2x6), .sl 2 3 0 a3.length] b2x8, .fixed (a3.flatMap cel60)]) rfl rfl ?_
 refine awp_wkQ ?_
 refine awp_block ?_
 obtain ⟨x1, hx1, h⟩ := ob h
 obtain ⟨x2, hx2, h⟩ := ob h
 obtain ⟨x3, hx3, h⟩ := ob h
 obtain ⟨x4, hx4, h⟩ := ob h
 obtain ⟨x5, hx5, h⟩ := ob h
 obtain ⟨x6, hx6, h⟩ := ob h
 refine awp_sdraw tt_ok mixed (ks := [8, 13, 14]) (hs := [.no, .no, .no, .no, .no, .no, .no, .vals [vi x3], .no, .no, .no, .no, .no, .nums (b2x8.set (0 + y1.toNat * 6 + y2.toNat * 1) (w64 (x3 + 1)))]) 12 [8, 13, 14, 77, 83, 86, 87] [(8, .ref 1 0), (13, vi y1), (14, vi y2)] [.loop (none) [73, 74] asn64x0 bdy64x0 158 [(8, .ref 1 0)], .cells [.ref 2 0], .vec [.d (L60 b2x0), vi b2x1, .d (L60 b2x2), .d (L51 b2x3), vi b2x4, .d (L51 b2x5), .d (L3 b2x6), .sl 2 3 0 a3.length] (b2x8.set (0 + y1.toNat * 6 + y2.toNat * 1) (w64 (x3 + 1))), .fixed (a3.flatMap cel60)] [(0 ≤ y1 ∧ y1 < ((6 : Nat) : Int)), (0 ≤ y2 ∧ y2 < ((6 : Nat) : Int)), LoadOk ([.d (L60 b2x0), vi b2x1, .d (L60 b2x2), .d (L51 b2x3), vi b2x4, .d (L51 b2x5), .d (L3 b2x6), .sl 2 3 0 a3.length] ++ b2x8.map vi) (8 + y1.toNat * 6 + y2.toNat * 1) 1 [vi x3], (0 ≤ y1 ∧ y1 < ((6 : Nat) : Int)), (0 ≤ y2 ∧ y2 < ((6 : Nat) : Int)), (([vi (w64 (x3 + 1))] : List V).length = 1), StoreOk ([.d (L60 b2x0), vi b2x1, .d (L60 b2x2), .d (L51 b2x3), vi b2x4, .d (L51 b2x5), .d (L3 b2x6), .sl 2 3 0 a3.length] ++ b2x8.map vi) (8 + y1.toNat * 6 + y2.toNat * 1) [vi (w64 (x3 + 1))] ([.d (L60 b2x0), vi b2x1, .d (L60 b2x2), .d (L51 b2x3), vi b2x4, .d (L51 b2x5), .d (L3 b2x6), .sl 2 3 0 a3.length] ++ (b2x8.set (0 + y1.toNat * 6 + y2.toNat * 1) (w64 (x3 + 1))).map vi)] (by kernel_rfl) (And.intro ((need_of hx1 : 0 ≤ y1 ∧ y1 < ((6 : Nat) : Int))) (And.intro ((need_of hx2 : 0 ≤ y2 ∧ y2 < ((6 : Nat) : Int))) (And.intro (vecLoad (p := 8) (pre := [.d (L60 b2x0), vi b2x1, .d (L60 b2x2), .d (L51 b2x3), vi b2x4, .d (L51 b2x5), .d (L3 b2x6), .sl 2 3 0 a3.length]) (k := 0 + y1.toNat * 6 + y2.toNat * 1) rfl hx3 (by omega)) (And.intro ((need_of hx4 : 0 ≤ y1 ∧ y1 < ((6 : Nat) : Int))) (And.intro ((need_of hx5 : 0 ≤ y2 ∧ y2 < ((6 : Nat) : Int))) (And.intro ((rfl : ([vi (w64 (x3 + 1))] : List V).length = 1)) (vecStore (p := 8) (pre := [.d (L60 b2x0), vi b2x1, .d (L60 b2x2), .d (L51 b2x3), vi b2x4, .d (L51 b2x5), .d (L3 b2x6), .sl 2 3 0 a3.length]) (k := 0 + y1.toNat * 6 + y2.toNat * 1) rfl hx6 (by omega)))))))) ?_
 obtain ⟨x7, hx7, h⟩ := ob h
 obtain ⟨x8, hx8, h⟩ := ob h
 obtain ⟨x9, hx9, h⟩ := ob h
 obtain ⟨x10, hx10, h⟩ := ob h
 obtain ⟨x11, hx11, h⟩ := ob h
 obtain ⟨x12, hx12, h⟩ := ob h
 refine awp_draw (T' := []) (H' := [.loop (none) [73, 74] asn64x0 bdy64x0 158 [(8, .ref 1 0)], .cells [.ref 2 0], .vec [.d (L60 b2x0), vi b2x1, .d (L60 b2x2), .d (L51 b2x3), vi b2x4, .d (L51 b2x5), .d (L3 b2x6), .sl 2 3 0 a3.length] ((b2x8.set (0 + y1.toNat * 6 + y2.toNat * 1) (w64 (x3 + 1))).set (0 + y2.toNat * 6 + y1.toNat * 1) (w64 (x9 + 1))), .fixed (a3.flatMap cel60)]) (ps := [(0 ≤ y2 ∧ y2 < ((6 : Nat) : Int)), (0 ≤ y1 ∧ y1 < ((6 : Nat) : Int)), LoadOk ([.d (L60 b2x0), vi b2x1, .d (L60 b2x2), .d (L51 b2x3), vi b2x4, .d (L51 b2x5), .d (L3 b2x6), .sl 2 3 0 a3.length] ++ (b2x8.set (0 + y1.toNat * 6 + y2.toNat * 1) (w64 (x3 + 1))).map vi) (8 + y2.toNat * 6 + y1.toNat * 1) 1 [vi x9], (0 ≤ y2 ∧ y2 < ((6 : Nat) : Int)), (0 ≤ y1 ∧ y1 < ((6 : Nat) : Int)), (([vi (w64 (x9 + 1))] : List V).length = 1), StoreOk ([.d (L60 b2x0), vi b2x1, .d (L60 b2x2), .d (L51 b2x3), vi b2x4, .d (L51 b2x5), .d (L3 b2x6), .sl 2 3 0 a3.length] ++ (b2x8.set (0 + y1.toNat * 6 + y2.toNat * 1) (w64 (x3 + 1))).map vi) (8 + y2.toNat * 6 + y1.toNat * 1) [vi (w64 (x9 + 1))] ([.d (L60 b2x0), vi b2x1, .d (L60 b2x2), .d (L51 b2x3), vi b2x4, .d (L51 b2x5), .d (L3 b2x6), .sl 2 3 0 a3.length] ++ ((b2x8.set (0 + y1.toNat * 6 + y2.toNat * 1) (w64 (x3 + 1))).set (0 + y2.toNat * 6 + y1.toNat * 1) (w64 (x9 + 1))).map vi)]) tt_ok mixed (ks := []) (hs := [.no, .no, .no, .no, .no, .no, .no, .vals [vi x9], .no, .no, .no, .no, .no, .nums ((b2x8.set (0 + y1.toNat * 6 + y2.toNat * 1) (w64 (x3 + 1))).set (0 + y2.toNat * 6 + y1.toNat * 1) (w64 (x9 + 1)))]) (m := 12) (mid := [90, 96, 99, 100]) (by kernel_rfl) (And.intro ((need_of hx7 : 0 ≤ y2 ∧ y2 < ((6 : Nat) : Int))) (And.intro ((need_of hx8 : 0 ≤ y1 ∧ y1 < ((6 : Nat) : Int))) (And.intro (vecLoad (p := 8) (pre := [.d (L60 b2x0), vi b2x1, .d (L60 b2x2), .d (L51 b2x3), vi b2x4, .d (L51 b2x5), .d (L3 b2x6), .sl 2 3 0 a3.length]) (k := 0 + y2.toNat * 6 + y1.toNat * 1) rfl hx9 (by omega)) (And.intro ((need_of hx10 : 0 ≤ y2 ∧ y2 < ((6 : Nat) : Int))) (And.intro ((need_of hx11 : 0 ≤ y1 ∧ y1 < ((6 : Nat) : Int))) (And.intro ((rfl : ([vi (w64 (x9 + 1))] : List V).length = 1)) (vecStore (p := 8) (pre := [.d (L60 b2x0), vi b2x1, .d (L60 b2x2), .d (L51 b2x3), vi b2x4, .d (L51 b2x5), .d (L3 b2x6), .sl 2 3 0 a3.length]) (k := 0 + y2.toNat * 6 + y1.toNat * 1) rfl hx12 (by omega)))))))) ?_
 obtain rfl := Option.some.inj h
 try delta blockQ
 try delta thenQ
 try delta noGotoA
 show Wk _ _ _ _ _
 refine Wk.mk 4 [] (by kernel_rfl) (T' := []) (H' := [.loop (none) [73, 74] asn64x0 bdy64x0 158 [(8, .ref 1 0)], .cells [.ref 2 0], .vec [.d (L60 b2x0), vi b2x1, .d (L60 b2x2), .d (L51 b2x3), vi b2x4, .d (L51 b2x5), .d (L3 b2x6), .sl 2 3 0 a3.length] ((b2x8.set (0 + y1.toNat * 6 + y2.toNat * 1) (w64 (x3 + 1))).set (0 + y2.toNat * 6 + y1.toNat * 1) (w64 (x9 + 1))), .fixed (a3.flatMap cel60)]) (by kernel_rfl) (by kernel_rfl) ?_
 exact ⟨none, rfl, rfl, by kernel_rfl, by kernel_rfl⟩
theorem ct88 {fuel : Nat}  {b2x0 : List S_api_Span} {b2x1 : Int} {b2x2 : List S_api_Span} {b2x3 : List S_api_ClPair} {b2x4 : Int} {b2x5 : List S_api_ClPair} {b2x6 : List Int} {b2x8 : List Int} {a3 : List S_api_Span} {b5x0 : Int} {b5x1 : Int} {res : (List Int)} (h : F88 fuel b2x0 b2x1 b2x2 b2x3 b2x4 b2x5 b2x6 b2x8 a3 b5x0 b5x1 = some res) : HCall Try.prog 88 [.yld 0, .ref 4 0, .ref 5 0] [.loop (some none) [73, 74] asn64x0 bdy64x0 158 [(8, .ref 1 0)], .cells [.ref 2 0], .vec [.d (L60 b2x0), vi b2x1, .d (L60 b2x2), .d (L51 b2x3), vi b2x4, .d (L51 b2x5), .d (L3 b2x6), .sl 2 3 0 a3.length] b2x8, .fixed (a3.flatMap cel60), .cells [.ref 2 0], .cells [vi b5x0, vi b5x1]] (.tup []) [.loop (some none) [73, 74] asn64x0 bdy64x0 158 [(8, .ref 1 0)], .cells [.ref 2 0], .vec [.d (L60 b2x0), vi b2x1, .d (L60 b2x2), .d (L51 b2x3), vi b2x4, .d (L51 b2x5), .d (L3 b2x6), .sl 2 3 0 a3.length] res, .fixed (a3.flatMap cel60), .cells [.ref 2 0], .cells [vi b5x0, vi b5x1]] := by
 refine HCall.of_awpS tt_ok (N := 64) (fl := 6) Try.func88 rfl (by kernel_rfl) rfl rfl (Nat.le_of_ble_eq_true rfl) ?_
 unfold F88 at h
 refine awp_res [.loop (some none) [73, 74] asn64x0 bdy64x0 158 [(8, .ref 1 0)], .cells [.ref 2 0], .vec [.d (L60 b2x0), vi b2x1, .d (L60 b2x2), .d (L51 b2x3), vi b2x4, .d (L51 b2x5), .d (L3 b2x6), .sl 2 3 0 a3.length] b2x8, .fixed (a3.flatMap cel60), .cells [.ref 2 0], .cells [vi b5x0, vi b5x1], .data []] (by kernel_rfl) ?_
 refine awp_res [.loop (some none) [73, 74] asn64x0 bdy64x0 158 [(8, .ref 1 0)], .cells [.ref 2 0], .vec [.d (L60 b2x0), vi b2x1, .d (L60 b2x2), .d (L51 b2x3), vi b2x4, .d (L51 b2x5), .d (L3 b2x6), .sl 2 3 0 a3.length] b2x8, .fixed (a3.flatMap cel60), .cells [.ref 2 0], .cells [vi b5x0, vi b5x1], .data [], .data []] (by kernel_rfl) ?_
 obtain ⟨x1, hx1, h⟩ := ob h
 obtain ⟨x2, hx2, h⟩ := ob h
 refine awp_seq (awp_any (T' := [(0, .yld 0), (4, .ref 6 0), (5, .ref 7 0)]) (H' := [.loop (some none) [73, 74] asn64x0 bdy64x0 158 [(8, .ref 1 0)], .cells [.ref 2 0], .vec [.d (L60 b2x0), vi b2x1, .d (L60 b2x2), .d (L51 b2x3), vi b2x4, .d (L51 b2x5), .d (L3 b2x6), .sl 2 3 0 a3.length] b2x8, .fixed (a3.flatMap cel60), .cells [.ref 2 0], .cells [vi b5x0, vi b5x1], .cells [vi x1.Lo, vi x1.Hi], .cells [vi x2.Lo, vi x2.Hi]]) (ps := [(0 ≤ b5x0 ∧ b5x0 < (a3.length : Int)), LoadOk ((a3.flatMap cel60).map .d) (0 + b5x0.toNat * 2) 2 (([(di x1.Lo), (di x1.Hi)] : List D).map .d), (0 ≤ b5x1 ∧ b5x1 < (a3.length : Int)), LoadOk ((a3.flatMap cel60).map .d) (0 + b5x1.toNat * 2) 2 (([(di x2.Lo), (di x2.Hi)] : List D).map .d)]) tt_ok mixed (ks := [0, 4, 5]) (hs := [.no, .no, .no, .no, .no, .no, .no, .vals (([(di x1.Lo), (di x1.Hi)] : List D).map .d), .no, .no, .no, .no, .no, .no, .no, .vals (([(di x2.Lo), (di x2.Hi)] : List D).map .d), .res 6, .res 7]) (m := 19) (mid := [0, 4, 5, 25]) (by kernel_rfl) (And.intro (idx_bounds hx1) (And.intro (loadOk (j := 0) (es := ([(di x1.Lo), (di x1.Hi)] : List D)) cel60_len hx1 rfl rfl rfl (Nat.le_of_ble_eq_true rfl)) (And.intro (idx_bounds hx2) (loadOk (j := 0) (es := ([(di x2.Lo), (di x2.Hi)] : List D)) cel60_len hx2 rfl rfl rfl (Nat.le_of_ble_eq_true rfl))))) ?_)
 show awp ..
 refine g0 [0, 4, 5, 31, 32] [] [(0, .yld 0), (4, .ref 6 0), (5, .ref 7 0), (31, vi (w64 ((w64 (x1.Hi - x1.Lo)) + 1))), (32, vi 0)] [.loop (some none) [73, 74] asn64x0 bdy64x0 158 [(8, .ref 1 0)], .cells [.ref 2 0], .vec [.d (L60 b2x0), vi b2x1, .d (L60 b2x2), .d (L51 b2x3), vi b2x4, .d (L51 b2x5), .d (L3 b2x6), .sl 2 3 0 a3.length] b2x8, .fixed (a3.flatMap cel60), .cells [.ref 2 0], .cells [vi b5x0, vi b5x1], .cells [vi x1.Lo, vi x1.Hi], .cells [vi x2.Lo, vi x2.Hi]] ?_
 obtain ⟨o3, ho3, h⟩ := ob h
 refine awp_cut1 (OutQ (fun (ro3 : (List Int)) => []) (fun (ro3 : (List Int)) => [.loop (some none) [73, 74] asn64x0 bdy64x0 158 [(8, .ref 1 0)], .cells [.ref 2 0], .vec [.d (L60 b2x0), vi b2x1, .d (L60 b2x2), .d (L51 b2x3), vi b2x4, .d (L51 b2x5), .d (L3 b2x6), .sl 2 3 0 a3.length] ro3, .fixed (a3.flatMap cel60), .cells [.ref 2 0], .cells [vi b5x0, vi b5x1]]) (fun (so3 : (List Int)) => []) (fun (so3 : (List Int)) => [.loop (some none) [73, 74] asn64x0 bdy64x0 158 [(8, .ref 1 0)], .cells [.ref 2 0], .vec [.d (L60 b2x0), vi b2x1, .d (L60 b2x2), .d (L51 b2x3), vi b2x4, .d (L51 b2x5), .d (L3 b2x6), .sl 2 3 0 a3.length] so3, .fixed (a3.flatMap cel60), .cells [.ref 2 0], .cells [vi b5x0, vi b5x1], .cells [vi x1.Lo, vi x1.Hi], .cells [vi x2.Lo, vi x2.Hi]]) o3) ?_ ?_
 ·clear h
  have h := ho3
  clear ho3
  refine awp_selQ (gw 8 [0, 4, 5, 31, 32] [(0, .yld 0), (4, .ref 6 0), (5, .ref 7 0), (31, vi (w64 ((w64 (x1.Hi - x1.Lo)) + 1))), (32, vi 0)] [.loop (some none) [73, 74] asn64x0 bdy64x0 158 [(8, .ref 1 0)], .cells [.ref 2 0], .vec [.d (L60 b2x0), vi b2x1, .d (L60 b2x2), .d (L51 b2x3), vi b2x4, .d (L51 b2x5), .d (L3 b2x6), .sl 2 3 0 a3.length] b2x8, .fixed (a3.flatMap cel60), .cells [.ref 2 0], .cells [vi b5x0, vi b5x1], .cells [vi x1.Lo, vi x1.Hi], .cells [vi x2.Lo, vi x2.Hi]] ?_)
  refine awp_block (awp_loop (n := fuel) ?_)
  refine awpN_ind (fun n (c4 : Int × (List Int)) => F88L1 fuel b2x0 b2x1 b2x2 b2x3 b2x4 b2x5 b2x6 a3 x1 x2 n c4) o3 (fun (c4 : Int × (List Int)) => [(0, .yld 0), (4, .ref 6 0), (5, .ref 7 0), (31, vi (w64 ((w64 (x1.Hi - x1.Lo)) + 1))), (32, vi c4.1)]) (fun (c4 : Int × (List Int)) => [.loop (some none) [73, 74] asn64x0 bdy64x0 158 [(8, .ref 1 0)], .cells [.ref 2 0], .vec [.d (L60 b2x0), vi b2x1, .d (L60 b2x2), .d (L51 b2x3), vi b2x4, .d (L51 b2x5), .d (L3 b2x6), .sl 2 3 0 a3.length] c4.2, .fixed (a3.flatMap cel60), .cells [.ref 2 0], .cells [vi b5x0, vi b5x1], .cells [vi x1.Lo, vi x1.Hi], .cells [vi x2.Lo, vi x2.Hi]]) (fun _ => rfl) ?_ fuel (0, b2x8) h
  clear h
  intro n5 c4 h hrn5
  change F88L1 fuel b2x0 b2x1 b2x2 b2x3 b2x4 b2x5 b2x6 a3 x1 x2 (n5 + 1) c4 = some o3 at h
  rw [F88L1] at h
  refine g0 [0, 4, 5, 31, 32, 33] [] [(0, .yld 0), (4, .ref 6 0), (5, .ref 7 0), (31, vi (w64 ((w64 (x1.Hi - x1.Lo)) + 1))), (32, vi c4.1), (33, vb (decide (c4.1 < (w64 ((w64 (x1.Hi - x1.Lo)) + 1)))))] [.loop (some none) [73, 74] asn64x0 bdy64x0 158 [(8, .ref 1 0)], .cells [.ref 2 0], .vec [.d (L60 b2x0), vi b2x1, .d (L60 b2x2), .d (L51 b2x3), vi b2x4, .d (L51 b2x5), .d (L3 b2x6), .sl 2 3 0 a3.length] c4.2, .fixed (a3.flatMap cel60), .cells [.ref 2 0], .cells [vi b5x0, vi b5x1], .cells [vi x1.Lo, vi x1.Hi], .cells [vi x2.Lo, vi x2.Hi]] ?_
  refine awp_seq (awp_cond (b := (decide (c4.1 < (w64 ((w64 (x1.Hi - x1.Lo)) + 1))))) (by kernel_rfl) (fun hb6 => ?_) (fun hb6 => ?_))
  ·rw [if_pos hb6] at h
   refine awp_skip ?_
   show awp ..
   refine awp_seq (awp_block ?_)
   refine g0 [0, 4, 5, 6, 31, 32] [] [(0, .yld 0), (4, .ref 6 0), (5, .ref 7 0), (6, vi c4.1), (31, vi (w64 ((w64 (x1.Hi - x1.Lo)) + 1))), (32, vi c4.1)] [.loop (some none) [73, 74] asn64x0 bdy64x0 158 [(8, .ref 1 0)], .cells [.ref 2 0], .vec [.d (L60 b2x0), vi b2x1, .d (L60 b2x2), .d (L51 b2x3), vi b2x4, .d (L51 b2x5), .d (L3 b2x6), .sl 2 3 0 a3.length] c4.2, .fixed (a3.flatMap cel60), .cells [.ref 2 0], .cells [vi b5x0, vi b5x1], .cells [vi x1.Lo, vi x1.Hi], .cells [vi x2.Lo, vi x2.Hi]] ?_
   refine g0 [0, 4, 5, 6, 31, 32, 40, 41] [] [(0, .yld 0), (4, .ref 6 0), (5, .ref 7 0), (6, vi c4.1), (31, vi (w64 ((w64 (x1.Hi - x1.Lo)) + 1))), (32, vi c4.1), (40, vi (w64 ((w64 (x2.Hi - x2.Lo)) + 1))), (41, vi 0)] [.loop (some none) [73, 74] asn64x0 bdy64x0 158 [(8, .ref 1 0)], .cells [.ref 2 0], .vec [.d (L60 b2x0), vi b2x1, .d (L60 b2x2), .d (L51 b2x3), vi b2x4, .d (L51 b2x5), .d (L3 b2x6), .sl 2 3 0 a3.length] c4.2, .fixed (a3.flatMap cel60), .cells [.ref 2 0], .cells [vi b5x0, vi b5x1], .cells [vi x1.Lo, vi x1.Hi], .cells [vi x2.Lo, vi x2.Hi]] ?_
   obtain ⟨o7, ho7, h⟩ := ob h
   refine awp_cut1 (OutQ (fun (ro7 : (List Int)) => []) (fun (ro7 : (List Int)) => [.loop (some none) [73, 74] asn64x0 bdy64x0 158 [(8, .ref 1 0)], .cells [.ref 2 0], .vec [.d (L60 b2x0), vi b2x1, .d (L60 b2x2), .d (L51 b2x3), vi b2x4, .d (L51 b2x5), .d (L3 b2x6), .sl 2 3 0 a3.length] ro7, .fixed (a3.flatMap cel60), .cells [.ref 2 0], .cells [vi b5x0, vi b5x1]]) (fun (so7 : (List Int)) => [(0, .yld 0), (4, .ref 6 0), (5, .ref 7 0), (31, vi (w64 ((w64 (x1.Hi - x1.Lo)) + 1))), (32, vi c4.1)]) (fun (so7 : (List Int)) => [.loop (some none) [73, 74] asn64x0 bdy64x0 158 [(8, .ref 1 0)], .cells [.ref 2 0], .vec [.d (L60 b2x0), vi b2x1, .d (L60 b2x2), .d (L51 b2x3), vi b2x4, .d (L51 b2x5), .d (L3 b2x6), .sl 2 3 0 a3.length] so7, .fixed (a3.flatMap cel60), .cells [.ref 2 0], .cells [vi b5x0, vi b5x1], .cells [vi x1.Lo, vi x1.Hi], .cells [vi x2.Lo, vi x2.Hi]]) o7) ?_ ?_
   ·clear h
    have h := ho7
    clear ho7
    refine awp_selQ (gw 8 [0, 4, 5, 6, 31, 32, 40, 41] [(0, .yld 0), (4, .ref 6 0), (5, .ref 7 0), (6, vi c4.1), (31, vi (w64 ((w64 (x1.Hi - x1.Lo)) + 1))), (32, vi c4.1), (40, vi (w64 ((w64 (x2.Hi - x2.Lo)) + 1))), (41, vi 0)] [.loop (some none) [73, 74] asn64x0 bdy64x0 158 [(8, .ref 1 0)], .cells [.ref 2 0], .vec [.d (L60 b2x0), vi b2x1, .d (L60 b2x2), .d (L51 b2x3), vi b2x4, .d (L51 b2x5), .d (L3 b2x6), .sl 2 3 0 a3.length] c4.2, .fixed (a3.flatMap cel60), .cells [.ref 2 0], .cells [vi b5x0, vi b5x1], .cells [vi x1.Lo, vi x1.Hi], .cells [vi x2.Lo, vi x2.Hi]] ?_)
    refine awp_block (awp_loop (n := fuel) ?_)
    refine awpN_ind (fun n (c8 : Int × (List Int)) => F88L2 b2x0 b2x1 b2x2 b2x3 b2x4 b2x5 b2x6 a3 x1 x2 c4 n c8) o7 (fun (c8 : Int × (List Int)) => [(0, .yld 0), (4, .ref 6 0), (5, .ref 7 0), (6, vi c4.1), (31, vi (w64 ((w64 (x1.Hi - x1.Lo)) + 1))), (32, vi c4.1), (40, vi (w64 ((w64 (x2.Hi - x2.Lo)) + 1))), (41, vi c8.1)]) (fun (c8 : Int × (List Int)) => [.loop (some none) [73, 74] asn64x0 bdy64x0 158 [(8, .ref 1 0)], .cells [.ref 2 0], .vec [.d (L60 b2x0), vi b2x1, .d (L60 b2x2), .d (L51 b2x3), vi b2x4, .d (L51 b2x5), .d (L3 b2x6), .sl 2 3 0 a3.length] c8.2, .fixed (a3.flatMap cel60), .cells [.ref 2 0], .cells [vi b5x0, vi b5x1], .cells [vi x1.Lo, vi x1.Hi], .cells [vi x2.Lo, vi x2.Hi]]) (fun _ => rfl) ?_ fuel (0, c4.2) h
    clear h
    intro n9 c8 h hrn9
    change F88L2 b2x0 b2x1 b2x2 b2x3 b2x4 b2x5 b2x6 a3 x1 x2 c4 (n9 + 1) c8 = some o7 at h
    rw [F88L2] at h
    refine g0 [0, 4, 5, 6, 31, 32, 40, 41, 42] [] [(0, .yld 0), (4, .ref 6 0), (5, .ref 7 0), (6, vi c4.1), (31, vi (w64 ((w64 (x1.Hi - x1.Lo)) + 1))), (32, vi c4.1), (40, vi (w64 ((w64 (x2.Hi - x2.Lo)) + 1))), (41, vi c8.1), (42, vb (decide (c8.1 < (w64 ((w64 (x2.Hi - x2.Lo)) + 1)))))] [.loop (some none) [73, 74] asn64x0 bdy64x0 158 [(8, .ref 1 0)], .cells [.ref 2 0], .vec [.d (L60 b2x0), vi b2x1, .d (L60 b2x2), .d (L51 b2x3), vi b2x4, .d (L51 b2x5), .d (L3 b2x6), .sl 2 3 0 a3.length] c8.2, .fixed (a3.flatMap cel60), .cells [.ref 2 0], .cells [vi b5x0, vi b5x1], .cells [vi x1.Lo, vi x1.Hi], .cells [vi x2.Lo, vi x2.Hi]] ?_
    refine awp_seq (awp_cond (b := (decide (c8.1 < (w64 ((w64 (x2.Hi - x2.Lo)) + 1))))) (by kernel_rfl) (fun hb10 => ?_) (fun hb10 => ?_))
    ·rw [if_pos hb10] at h
     refine awp_skip ?_
     show awp ..
     refine awp_seq (awp_block ?_)
     refine g0 [0, 4, 5, 6, 7, 31, 32, 40, 41] [] [(0, .yld 0), (4, .ref 6 0), (5, .ref 7 0), (6, vi c4.1), (7, vi c8.1), (31, vi (w64 ((w64 (x1.Hi - x1.Lo)) + 1))), (32, vi c4.1), (40, vi (w64 ((w64 (x2.Hi - x2.Lo)) + 1))), (41, vi c8.1)] [.loop (some none) [73, 74] asn64x0 bdy64x0 158 [(8, .ref 1 0)], .cells [.ref 2 0], .vec [.d (L60 b2x0), vi b2x1, .d (L60 b2x2), .d (L51 b2x3), vi b2x4, .d (L51 b2x5), .d (L3 b2x6), .sl 2 3 0 a3.length] c8.2, .fixed (a3.flatMap cel60), .cells [.ref 2 0], .cells [vi b5x0, vi b5x1], .cells [vi x1.Lo, vi x1.Hi], .cells [vi x2.Lo, vi x2.Hi]] ?_
     refine awp_sdraw tt_ok mixed (ks := [0, 4, 5, 6, 8, 9, 31, 32, 40, 41]) (hs := []) 9 [0, 4, 5, 6, 8, 9, 31, 32, 40, 41, 51] [(0, .yld 0), (4, .ref 6 0), (5, .ref 7 0), (6, vi c4.1), (8, vi (w64 (x1.Lo + c4.1))), (9, vi (w64 (x2.Lo + c8.1))), (31, vi (w64 ((w64 (x1.Hi - x1.Lo)) + 1))), (32, vi c4.1), (40, vi (w64 ((w64 (x2.Hi - x2.Lo)) + 1))), (41, vi c8.1)] [.loop (some none) [73, 74] asn64x0 bdy64x0 158 [(8, .ref 1 0)], .cells [.ref 2 0], .vec [.d (L60 b2x0), vi b2x1, .d (L60 b2x2), .d (L51 b2x3), vi b2x4, .d (L51 b2x5), .d (L3 b2x6), .sl 2 3 0 a3.length] c8.2, .fixed (a3.flatMap cel60), .cells [.ref 2 0], .cells [vi b5x0, vi b5x1], .cells [vi x1.Lo, vi x1.Hi], .cells [vi x2.Lo, vi x2.Hi]] [] (by kernel_rfl) trivial ?_
     obtain ⟨x11, hx11, h⟩ := ob h
     refine gr [0, 4, 5, 6, 31, 32, 40, 41, 61] [.no, .no, .no, .no, .no, .no, .no, .gcall [(0, false), (1, false), (2, false), (3, false)] (vb true) [.loop (some none) [73, 74] asn64x0 bdy64x0 158 [(8, .ref 1 0)], .cells [.ref 2 0], .vec [.d (L60 b2x0), vi b2x1, .d (L60 b2x2), .d (L51 b2x3), vi b2x4, .d (L51 b2x5), .d (L3 b2x6), .sl 2 3 0 a3.length] x11, .fixed (a3.flatMap cel60)] [.loop (some none) [73, 74] asn64x0 bdy64x0 158 [(8, .ref 1 0)], .cells [.ref 2 0], .vec [.d (L60 b2x0), vi b2x1, .d (L60 b2x2), .d (L51 b2x3), vi b2x4, .d (L51 b2x5), .d (L3 b2x6), .sl 2 3 0 a3.length] (cond ((w64 (x1.Lo + c4.1)) != (w64 (x2.Lo + c8.1))) x11 c8.2), .fixed (a3.flatMap cel60), .cells [.ref 2 0], .cells [vi b5x0, vi b5x1], .cells [vi x1.Lo, vi x1.Hi], .cells [vi x2.Lo, vi x2.Hi]]] [(0, .yld 0), (4, .ref 6 0), (5, .ref 7 0), (6, vi c4.1), (31, vi (w64 ((w64 (x1.Hi - x1.Lo)) + 1))), (32, vi c4.1), (40, vi (w64 ((w64 (x2.Hi - x2.Lo)) + 1))), (41, vi c8.1), (61, vb (cond ((w64 (x1.Lo + c4.1)) != (w64 (x2.Lo + c8.1))) false false))] [.loop (some none) [73, 74] asn64x0 bdy64x0 158 [(8, .ref 1 0)], .cells [.ref 2 0], .vec [.d (L60 b2x0), vi b2x1, .d (L60 b2x2), .d (L51 b2x3), vi b2x4, .d (L51 b2x5), .d (L3 b2x6), .sl 2 3 0 a3.length] (cond ((w64 (x1.Lo + c4.1)) != (w64 (x2.Lo + c8.1))) x11 c8.2), .fixed (a3.flatMap cel60), .cells [.ref 2 0], .cells [vi b5x0, vi b5x1], .cells [vi x1.Lo, vi x1.Hi], .cells [vi x2.Lo, vi x2.Hi]] [(((w64 (x1.Lo + c4.1)) != (w64 (x2.Lo + c8.1))) = true → ((w64 (x1.Lo + c4.1)) != (w64 (x2.Lo + c8.1))) = true), (((w64 (x1.Lo + c4.1)) != (w64 (x2.Lo + c8.1))) = true → ((w64 (x1.Lo + c4.1)) != (w64 (x2.Lo + c8.1))) = true), (((w64 (x1.Lo + c4.1)) != (w64 (x2.Lo + c8.1))) = true → ((w64 (x1.Lo + c4.1)) != (w64 (x2.Lo + c8.1))) = true), (((w64 (x1.Lo + c4.1)) != (w64 (x2.Lo + c8.1))) = true → ([.loop (some none) [73, 74] asn64x0 bdy64x0 158 [(8, .ref 1 0)], .cells [.ref 2 0], .vec [.d (L60 b2x0), vi b2x1, .d (L60 b2x2), .d (L51 b2x3), vi b2x4, .d (L51 b2x5), .d (L3 b2x6), .sl 2 3 0 a3.length] x11, .fixed (a3.flatMap cel60), .cells [.ref 2 0], .cells [vi b5x0, vi b5x1], .cells [vi x1.Lo, vi x1.Hi], .cells [vi x2.Lo, vi x2.Hi]] : List O) = [.loop (some none) [73, 74] asn64x0 bdy64x0 158 [(8, .ref 1 0)], .cells [.ref 2 0], .vec [.d (L60 b2x0), vi b2x1, .d (L60 b2x2), .d (L51 b2x3), vi b2x4, .d (L51 b2x5), .d (L3 b2x6), .sl 2 3 0 a3.length] (cond ((w64 (x1.Lo + c4.1)) != (w64 (x2.Lo + c8.1))) x11 c8.2), .fixed (a3.flatMap cel60), .cells [.ref 2 0], .cells [vi b5x0, vi b5x1], .cells [vi x1.Lo, vi x1.Hi], .cells [vi x2.Lo, vi x2.Hi]]), (((w64 (x1.Lo + c4.1)) != (w64 (x2.Lo + c8.1))) = false → ([.loop (some none) [73, 74] asn64x0 bdy64x0 158 [(8, .ref 1 0)], .cells [.ref 2 0], .vec [.d (L60 b2x0), vi b2x1, .d (L60 b2x2), .d (L51 b2x3), vi b2x4, .d (L51 b2x5), .d (L3 b2x6), .sl 2 3 0 a3.length] c8.2, .fixed (a3.flatMap cel60), .cells [.ref 2 0], .cells [vi b5x0, vi b5x1], .cells [vi x1.Lo, vi x1.Hi], .cells [vi x2.Lo, vi x2.Hi]] : List O) = [.loop (some none) [73, 74] asn64x0 bdy64x0 158 [(8, .ref 1 0)], .cells [.ref 2 0], .vec [.d (L60 b2x0), vi b2x1, .d (L60 b2x2), .d (L51 b2x3), vi b2x4, .d (L51 b2x5), .d (L3 b2x6), .sl 2 3 0 a3.length] (cond ((w64 (x1.Lo + c4.1)) != (w64 (x2.Lo + c8.1))) x11 c8.2), .fixed (a3.flatMap cel60), .cells [.ref 2 0], .cells [vi b5x0, vi b5x1], .cells [vi x1.Lo, vi x1.Hi], .cells [vi x2.Lo, vi x2.Hi]]), (((w64 (x1.Lo + c4.1)) != (w64 (x2.Lo + c8.1))) = true → YCall Try.prog [.yld 0, vi (w64 (x1.Lo + c4.1)), vi (w64 (x2.Lo + c8.1))] [.loop (some none) [73, 74] asn64x0 bdy64x0 158 [(8, .ref 1 0)], .cells [.ref 2 0], .vec [.d (L60 b2x0), vi b2x1, .d (L60 b2x2), .d (L51 b2x3), vi b2x4, .d (L51 b2x5), .d (L3 b2x6), .sl 2 3 0 a3.length] c8.2, .fixed (a3.flatMap cel60)] (vb true) [.loop (some none) [73, 74] asn64x0 bdy64x0 158 [(8, .ref 1 0)], .cells [.ref 2 0], .vec [.d (L60 b2x0), vi b2x1, .d (L60 b2x2), .d (L51 b2x3), vi b2x4, .d (L51 b2x5), .d (L3 b2x6), .sl 2 3 0 a3.length] x11, .fixed (a3.flatMap cel60)]), (((w64 (x1.Lo + c4.1)) != (w64 (x2.Lo + c8.1))) = true → ((w64 (x1.Lo + c4.1)) != (w64 (x2.Lo + c8.1))) = true), (((w64 (x1.Lo + c4.1)) != (w64 (x2.Lo + c8.1))) = true → ((w64 (x1.Lo + c4.1)) != (w64 (x2.Lo + c8.1))) = true)] (And.intro (id) (And.intro (id) (And.intro (id) (And.intro ((fun hg => by first | rfl | (rw [hg]; done) | (rw [hg]; rfl) | simp only [hg, cond_true])) (And.intro ((fun hg => by first | rfl | (rw [hg]; done) | (rw [hg]; rfl) | simp only [hg, cond_false])) (And.intro ((fun hg => ct64r (optG_of hx11 hg))) (And.intro (id) (id)))))))) ?_
     refine awp_cond (b := (cond ((w64 (x1.Lo + c4.1)) != (w64 (x2.Lo + c8.1))) false false)) (by kernel_rfl) (fun hb12 => ?_) (fun hb12 => ?_)
     ·rw [if_pos hb12] at h
      obtain rfl := Option.some.inj h
      refine gw 8 [] [] [.loop (some none) [73, 74] asn64x0 bdy64x0 158 [(8, .ref 1 0)], .cells [.ref 2 0], .vec [.d (L60 b2x0), vi b2x1, .d (L60 b2x2), .d (L51 b2x3), vi b2x4, .d (L51 b2x5), .d (L3 b2x6), .sl 2 3 0 a3.length] (cond ((w64 (x1.Lo + c4.1)) != (w64 (x2.Lo + c8.1))) x11 c8.2), .fixed (a3.flatMap cel60), .cells [.ref 2 0], .cells [vi b5x0, vi b5x1], .cells [vi x1.Lo, vi x1.Hi], .cells [vi x2.Lo, vi x2.Hi]] ?_
      exact awp_ret (gs [0, 1, 2, 3, 4, 5] [] OutQ.ret)
     ·rw [if_neg (ntrue hb12)] at h
      refine awp_skip ?_
      show awp ..
      refine x0 [0, 4, 5, 6, 31, 32, 40, 41] [] [(0, .yld 0), (4, .ref 6 0), (5, .ref 7 0), (6, vi c4.1), (31, vi (w64 ((w64 (x1.Hi - x1.Lo)) + 1))), (32, vi c4.1), (40, vi (w64 ((w64 (x2.Hi - x2.Lo)) + 1))), (41, vi (w64 (c8.1 + 1)))] [.loop (some none) [73, 74] asn64x0 bdy64x0 158 [(8, .ref 1 0)], .cells [.ref 2 0], .vec [.d (L60 b2x0), vi b2x1, .d (L60 b2x2), .d (L51 b2x3), vi b2x4, .d (L51 b2x5), .d (L3 b2x6), .sl 2 3 0 a3.length] (cond ((w64 (x1.Lo + c4.1)) != (w64 (x2.Lo + c8.1))) x11 c8.2), .fixed (a3.flatMap cel60), .cells [.ref 2 0], .cells [vi b5x0, vi b5x1], .cells [vi x1.Lo, vi x1.Hi], .cells [vi x2.Lo, vi x2.Hi]] ?_
      exact gn 8 [0, 4, 5, 6, 31, 32, 40, 41] (hrn9 ((w64 (c8.1 + 1)), (cond ((w64 (x1.Lo + c4.1)) != (w64 (x2.Lo + c8.1))) x11 c8.2)) h)
    ·rw [if_neg (ntrue hb10)] at h
     refine awp_exit ?_
     obtain rfl := Option.some.inj h
     exact gs [0, 1, 2, 3, 4, 5, 6, 7] [0, 4, 5, 31, 32] OutQ.norm
   ·intro e T H hq
    cases o7 with
    | inl ro7 =>
     obtain ⟨rfl, rfl, rfl⟩ := hq
     rw [outK_inl] at h
     obtain rfl := Option.some.inj h
     exact gs [0, 1, 2, 3, 4, 5] [] OutQ.ret
    | inr so7 =>
     obtain ⟨rfl, rfl, rfl⟩ := hq
     rw [outK_inr] at h
     show awp ..
     refine x0 [0, 4, 5, 31, 32] [] [(0, .yld 0), (4, .ref 6 0), (5, .ref 7 0), (31, vi (w64 ((w64 (x1.Hi - x1.Lo)) + 1))), (32, vi (w64 (c4.1 + 1)))] [.loop (some none) [73, 74] asn64x0 bdy64x0 158 [(8, .ref 1 0)], .cells [.ref 2 0], .vec [.d (L60 b2x0), vi b2x1, .d (L60 b2x2), .d (L51 b2x3), vi b2x4, .d (L51 b2x5), .d (L3 b2x6), .sl 2 3 0 a3.length] so7, .fixed (a3.flatMap cel60), .cells [.ref 2 0], .cells [vi b5x0, vi b5x1], .cells [vi x1.Lo, vi x1.Hi], .cells [vi x2.Lo, vi x2.Hi]] ?_
     exact gn 8 [0, 4, 5, 31, 32] (hrn5 ((w64 (c4.1 + 1)), so7) h)
  ·rw [if_neg (ntrue hb6)] at h
   refine awp_exit ?_
   obtain rfl := Option.some.inj h
   exact gs [0, 1, 2, 3, 4, 5, 6, 7] [] OutQ.norm
 ·intro e T H hq
  cases o3 with
  | inl ro3 =>
   obtain ⟨rfl, rfl, rfl⟩ := hq
   rw [outK_inl] at h
   obtain rfl := Option.some.inj h
   exact (main_retS [0, 1, 2, 3, 4, 5] (.tup []) (by kernel_rfl) (by kernel_rfl) (by kernel_rfl) (by kernel_rfl))
  | inr so3 =>
   obtain ⟨rfl, rfl, rfl⟩ := hq
   rw [outK_inr] at h
   obtain rfl := Option.some.inj h
   exact (main_retN [0, 1, 2, 3, 4, 5] (.tup []) (by kernel_rfl) (by kernel_rfl) (by kernel_rfl) (by kernel_rfl))
theorem ct64 {fuel : Nat}  {p_m : S_api_ClMap} {legend : (List Int)} {res : (Option S_colour_chart) × Int} (h : F64 fuel p_m legend = some res) : PCall Try.prog 64 [(ma p_m), (L3 legend)] (.tup [.d (OP89 res.1), vi res.2]) := by
 refine PCall.of_awp tt_ok (N := 158) Try.func64 rfl (by kernel_rfl) rfl (Nat.le_of_ble_eq_true rfl) rfl ?_
 unfold F64 at h
 refine g0 [1, 2] [] [(1, .d (L3 legend)), (2, .ref 0 0)] [mc p_m] ?_
 refine awp_seq ?_
 obtain ⟨x1, hx1, h⟩ := ob h
 refine gr [1, 2, 7] [.no, .no, .call [(ma p_m), (L3 legend)] (.tup [vi x1.1, vi x1.2])] [(1, .d (L3 legend)), (2, .ref 0 0), (7, vi x1.2)] [mc p_m] [PCall Try.prog 19 [(ma p_m), (L3 legend)] (.tup [vi x1.1, vi x1.2])] (ct19 hx1) ?_
 refine g0 [1, 2, 7, 25] [] [(1, .d (L3 legend)), (2, .ref 0 0), (7, vi x1.2), (25, vb (x1.2 != 0))] [mc p_m] ?_
 refine awp_cond (b := (x1.2 != 0)) (by kernel_rfl) (fun hb2 => ?_) (fun hb2 => ?_)
 ·rw [if_pos hb2] at h
  refine g0 [4, 5] [] [(4, .d (.v (.pointer none))), (5, vi x1.2)] [mc p_m] ?_
  obtain rfl := Option.some.inj h
  refine gw 1 [4, 5] [(4, .d (.v (.pointer none))), (5, vi x1.2)] [mc p_m] ?_
  refine awp_laxT 4 _ (OP89 (none : (Option S_colour_chart))) _ (by kernel_rfl) (.pnil) rfl ?_
  refine gw 1 [4, 5] [(4, .d (OP89 (none : (Option S_colour_chart)))), (5, vi x1.2)] [mc p_m] ?_
  exact awp_ret gm
 ·rw [if_neg (ntrue hb2)] at h
  refine awp_skip ?_
  show awp ..
  refine g0 [8] [] [(8, .ref 2 0)] [mc p_m, .cells ([.d (L60 p_m.Borders), vi p_m.Step, .d (L60 p_m.Heights), .d (L51 p_m.Sides), vi p_m.Inks, .d (L51 p_m.Like), .d (L3 legend), .d dnil] ++ (List.replicate 42 0).map vi), .cells [.ref 1 0]] ?_
  refine awp_vec 1 ([.d (L60 p_m.Borders), vi p_m.Step, .d (L60 p_m.Heights), .d (L51 p_m.Sides), vi p_m.Inks, .d (L51 p_m.Like), .d (L3 legend), .d dnil] ++ (List.replicate 42 0).map vi) [.d (L60 p_m.Borders), vi p_m.Step, .d (L60 p_m.Heights), .d (L51 p_m.Sides), vi p_m.Inks, .d (L51 p_m.Like), .d (L3 legend), .d dnil] (List.replicate 42 0) [mc p_m, .vec [.d (L60 p_m.Borders), vi p_m.Step, .d (L60 p_m.Heights), .d (L51 p_m.Sides), vi p_m.Inks, .d (L51 p_m.Like), .d (L3 legend), .d dnil] (List.replicate 42 0), .cells [.ref 1 0]] (by kernel_rfl) rfl (by kernel_rfl) ?_
  refine awp_seq (g0 [8, 35, 36, 37] [] [(8, .ref 2 0), (35, .d (L60 p_m.Heights)), (36, vi (p_m.Heights.length : Int)), (37, vi 0)] [mc p_m, .vec [.d (L60 p_m.Borders), vi p_m.Step, .d (L60 p_m.Heights), .d (L51 p_m.Sides), vi p_m.Inks, .d (L51 p_m.Like), .d (L3 legend), .d dnil] (List.replicate 42 0), .cells [.ref 1 0]] ?_)
  refine awp_unvec 1 [.d (L60 p_m.Borders), vi p_m.Step, .d (L60 p_m.Heights), .d (L51 p_m.Sides), vi p_m.Inks, .d (L51 p_m.Like), .d (L3 legend), .d dnil] (List.replicate 42 0) _ (by kernel_rfl) rfl ?_
  refine awp_nilC 1 7 2 ([.d (L60 p_m.Borders), vi p_m.Step, .d (L60 p_m.Heights), .d (L51 p_m.Sides), vi p_m.Inks, .d (L51 p_m.Like), .d (L3 legend), .d dnil] ++ (List.replicate 42 0).map vi) [mc p_m, .cells ([.d (L60 p_m.Borders), vi p_m.Step, .d (L60 p_m.Heights), .d (L51 p_m.Sides), vi p_m.Inks, .d (L51 p_m.Like), .d (L3 legend), .sl 2 3 0 ([] : List S_api_Span).length] ++ (List.replicate 42 0).map vi), .cells [.ref 1 0], .data (([] : List S_api_Span).flatMap cel60)] (by kernel_rfl) (by kernel_rfl) (by kernel_rfl) ?_
  refine awp_vec 1 ([.d (L60 p_m.Borders), vi p_m.Step, .d (L60 p_m.Heights), .d (L51 p_m.Sides), vi p_m.Inks, .d (L51 p_m.Like), .d (L3 legend), .sl 2 3 0 ([] : List S_api_Span).length] ++ (List.replicate 42 0).map vi) [.d (L60 p_m.Borders), vi p_m.Step, .d (L60 p_m.Heights), .d (L51 p_m.Sides), vi p_m.Inks, .d (L51 p_m.Like), .d (L3 legend), .sl 2 3 0 ([] : List S_api_Span).length] (List.replicate 42 0) [mc p_m, .vec [.d (L60 p_m.Borders), vi p_m.Step, .d (L60 p_m.Heights), .d (L51 p_m.Sides), vi p_m.Inks, .d (L51 p_m.Like), .d (L3 legend), .sl 2 3 0 ([] : List S_api_Span).length] (List.replicate 42 0), .cells [.ref 1 0], .data (([] : List S_api_Span).flatMap cel60)] (by kernel_rfl) rfl (by kernel_rfl) ?_
  refine gw 4 [8, 35, 36, 37] [(8, .ref 2 0), (35, .d (L60 p_m.Heights)), (36, vi (p_m.Heights.length : Int)), (37, vi 0)] [mc p_m, .vec [.d (L60 p_m.Borders), vi p_m.Step, .d (L60 p_m.Heights), .d (L51 p_m.Sides), vi p_m.Inks, .d (L51 p_m.Like), .d (L3 legend), .sl 2 3 0 ([] : List S_api_Span).length] (List.replicate 42 0), .cells [.ref 1 0], .data (([] : List S_api_Span).flatMap cel60)] ?_
  obtain ⟨o4, ho4, h⟩ := ob h
  refine awp_cut1 (OutQ (fun (ro4 : (Option S_colour_chart) × Int) => [(4, .d (OP89 ro4.1)), (5, vi ro4.2)]) (fun (ro4 : (Option S_colour_chart) × Int) => []) (fun (so4 : (List S_api_Span)) => [(8, .ref 2 0)]) (fun (so4 : (List S_api_Span)) => [mc p_m, .vec [.d (L60 p_m.Borders), vi p_m.Step, .d (L60 p_m.Heights), .d (L51 p_m.Sides), vi p_m.Inks, .d (L51 p_m.Like), .d (L3 legend), .sl 2 3 0 so4.length] (List.replicate 42 0), .cells [.ref 1 0], .data (so4.flatMap cel60)]) o4) ?_ ?_
  ·clear h
   have h := ho4
   clear ho4
   refine awp_selQ (gw 4 [8, 35, 36, 37] [(8, .ref 2 0), (35, .d (L60 p_m.Heights)), (36, vi (p_m.Heights.length : Int)), (37, vi 0)] [mc p_m, .vec [.d (L60 p_m.Borders), vi p_m.Step, .d (L60 p_m.Heights), .d (L51 p_m.Sides), vi p_m.Inks, .d (L51 p_m.Like), .d (L3 legend), .sl 2 3 0 ([] : List S_api_Span).length] (List.replicate 42 0), .cells [.ref 1 0], .data (([] : List S_api_Span).flatMap cel60)] ?_)
   refine awp_block (awp_loop (n := fuel) ?_)
   refine awpN_ind (fun n (c5 : Int × (List S_api_Span)) => F64L1 fuel p_m legend n c5) o4 (fun (c5 : Int × (List S_api_Span)) => [(8, .ref 2 0), (35, .d (L60 p_m.Heights)), (36, vi (p_m.Heights.length : Int)), (37, vi c5.1)]) (fun (c5 : Int × (List S_api_Span)) => [mc p_m, .vec [.d (L60 p_m.Borders), vi p_m.Step, .d (L60 p_m.Heights), .d (L51 p_m.Sides), vi p_m.Inks, .d (L51 p_m.Like), .d (L3 legend), .sl 2 3 0 c5.2.length] (List.replicate 42 0), .cells [.ref 1 0], .data (c5.2.flatMap cel60)]) (fun _ => rfl) ?_ fuel (0, ([] : List S_api_Span)) h
   clear h
   intro n6 c5 h hrn6
   change F64L1 fuel p_m legend (n6 + 1) c5 = some o4 at h
   rw [F64L1] at h
   refine g0 [8, 35, 36, 37, 38] [] [(8, .ref 2 0), (35, .d (L60 p_m.Heights)), (36, vi (p_m.Heights.length : Int)), (37, vi c5.1), (38, vb (decide (c5.1 < (p_m.Heights.length : Int))))] [mc p_m, .vec [.d (L60 p_m.Borders), vi p_m.Step, .d (L60 p_m.Heights), .d (L51 p_m.Sides), vi p_m.Inks, .d (L51 p_m.Like), .d (L3 legend), .sl 2 3 0 c5.2.length] (List.replicate 42 0), .cells [.ref 1 0], .data (c5.2.flatMap cel60)] ?_
   refine awp_seq (awp_cond (b := (decide (c5.1 < (p_m.Heights.length : Int)))) (by kernel_rfl) (fun hb7 => ?_) (fun hb7 => ?_))
   ·rw [if_pos hb7] at h
    refine awp_skip ?_
    show awp ..
    refine awp_seq (awp_block ?_)
    obtain ⟨x8, hx8, h⟩ := ob h
    refine gr [8, 10, 35, 36, 37] [.cells (cel60 x8)] [(8, .ref 2 0), (10, .ref 4 0), (35, .d (L60 p_m.Heights)), (36, vi (p_m.Heights.length : Int)), (37, vi c5.1)] [mc p_m, .vec [.d (L60 p_m.Borders), vi p_m.Step, .d (L60 p_m.Heights), .d (L51 p_m.Sides), vi p_m.Inks, .d (L51 p_m.Like), .d (L3 legend), .sl 2 3 0 c5.2.length] (List.replicate 42 0), .cells [.ref 1 0], .data (c5.2.flatMap cel60), .cells [vi x8.Lo, vi x8.Hi]] [IX60 p_m.Heights c5.1 x8] (idxOk cel60_len hx8) ?_
    obtain ⟨x9, hx9, h⟩ := ob h
    obtain ⟨x10, hx10, h⟩ := ob h
    obtain ⟨x11, hx11, h⟩ := ob h
    refine awp_any (T' := [(8, .ref 2 0), (35, .d (L60 p_m.Heights)), (36, vi (p_m.Heights.length : Int)), (37, vi c5.1)]) (H' := [mc p_m, .vec [.d (L60 p_m.Borders), vi p_m.Step, .d (L60 p_m.Heights), .d (L51 p_m.Sides), vi p_m.Inks, .d (L51 p_m.Like), .d (L3 legend), .sl 2 3 0 (c5.2 ++ ([(⟨x9, x10⟩ : S_api_Span)] : List S_api_Span)).length] (List.replicate 42 0), .cells [.ref 1 0], .data ((c5.2 ++ ([(⟨x9, x10⟩ : S_api_Span)] : List S_api_Span)).flatMap cel60), .cells [vi x8.Lo, vi x8.Hi]]) (ps := [(([(1, .vec [.d (L60 p_m.Borders), vi p_m.Step, .d (L60 p_m.Heights), .d (L51 p_m.Sides), vi p_m.Inks, .d (L51 p_m.Like), .d (L3 legend), .sl 2 3 0 c5.2.length] (List.replicate 42 0)), (3, .data (c5.2.flatMap cel60))] : List (Nat × O)) = [(1, .vec [.d (L60 p_m.Borders), vi p_m.Step, .d (L60 p_m.Heights), .d (L51 p_m.Sides), vi p_m.Inks, .d (L51 p_m.Like), .d (L3 legend), .sl 2 3 0 c5.2.length] (List.replicate 42 0)), (3, .data (c5.2.flatMap cel60))]), HCall Try.prog 82 [.ref 0 0, vi x8.Lo] [.vec [.d (L60 p_m.Borders), vi p_m.Step, .d (L60 p_m.Heights), .d (L51 p_m.Sides), vi p_m.Inks, .d (L51 p_m.Like), .d (L3 legend), .sl 2 1 0 c5.2.length] (List.replicate 42 0), .fixed (c5.2.flatMap cel60)] (vi x9) [.vec [.d (L60 p_m.Borders), vi p_m.Step, .d (L60 p_m.Heights), .d (L51 p_m.Sides), vi p_m.Inks, .d (L51 p_m.Like), .d (L3 legend), .sl 2 1 0 c5.2.length] (List.replicate 42 0), .fixed (c5.2.flatMap cel60)], (([(1, .vec [.d (L60 p_m.Borders), vi p_m.Step, .d (L60 p_m.Heights), .d (L51 p_m.Sides), vi p_m.Inks, .d (L51 p_m.Like), .d (L3 legend), .sl 2 3 0 c5.2.length] (List.replicate 42 0)), (3, .data (c5.2.flatMap cel60))] : List (Nat × O)) = [(1, .vec [.d (L60 p_m.Borders), vi p_m.Step, .d (L60 p_m.Heights), .d (L51 p_m.Sides), vi p_m.Inks, .d (L51 p_m.Like), .d (L3 legend), .sl 2 3 0 c5.2.length] (List.replicate 42 0)), (3, .data (c5.2.flatMap cel60))]), HCall Try.prog 82 [.ref 0 0, vi x8.Hi] [.vec [.d (L60 p_m.Borders), vi p_m.Step, .d (L60 p_m.Heights), .d (L51 p_m.Sides), vi p_m.Inks, .d (L51 p_m.Like), .d (L3 legend), .sl 2 1 0 c5.2.length] (List.replicate 42 0), .fixed (c5.2.flatMap cel60)] (vi x10) [.vec [.d (L60 p_m.Borders), vi p_m.Step, .d (L60 p_m.Heights), .d (L51 p_m.Sides), vi p_m.Inks, .d (L51 p_m.Like), .d (L3 legend), .sl 2 1 0 c5.2.length] (List.replicate 42 0), .fixed (c5.2.flatMap cel60)], AppendOk ((c5.2.flatMap cel60).map .d) c5.2.length ([(⟨x9, x10⟩ : S_api_Span)] : List S_api_Span).length (c5.2 ++ ([(⟨x9, x10⟩ : S_api_Span)] : List S_api_Span)).length 2 16 (([(⟨x9, x10⟩ : S_api_Span)] : List S_api_Span).flatMap cel60) ((c5.2 ++ ([(⟨x9, x10⟩ : S_api_Span)] : List S_api_Span)).flatMap cel60)]) tt_ok mixed (ks := [8, 35, 36, 37]) (hs := [.no, .no, .no, .no, .no, .no, .no, .no, .rcall [(1, false), (3, true)] (vi x9), .no, .no, .no, .rcall [(1, false), (3, true)] (vi x10), .no, .no, .app 3 [45] [1] (c5.2 ++ ([(⟨x9, x10⟩ : S_api_Span)] : List S_api_Span)).length ((c5.2 ++ ([(⟨x9, x10⟩ : S_api_Span)] : List S_api_Span)).flatMap cel60)]) (m := 16) (mid := [8, 35, 36, 37, 41, 56, 57, 58]) (by kernel_rfl) (And.intro (rfl) (And.intro (ct82v1 hx9) (And.intro (rfl) (And.intro (ct82v1 hx10) (appendOk cel60_len (need_of hx11)))))) ?_
    show awp ..
    refine x0 [8, 35, 36, 37] [] [(8, .ref 2 0), (35, .d (L60 p_m.Heights)), (36, vi (p_m.Heights.length : Int)), (37, vi (w64 (c5.1 + 1)))] [mc p_m, .vec [.d (L60 p_m.Borders), vi p_m.Step, .d (L60 p_m.Heights), .d (L51 p_m.Sides), vi p_m.Inks, .d (L51 p_m.Like), .d (L3 legend), .sl 2 3 0 (c5.2 ++ ([(⟨x9, x10⟩ : S_api_Span)] : List S_api_Span)).length] (List.replicate 42 0), .cells [.ref 1 0], .data ((c5.2 ++ ([(⟨x9, x10⟩ : S_api_Span)] : List S_api_Span)).flatMap cel60), .cells [vi x8.Lo, vi x8.Hi]] ?_
    exact gn 4 [8, 35, 36, 37] (hrn6 ((w64 (c5.1 + 1)), (c5.2 ++ ([(⟨x9, x10⟩ : S_api_Span)] : List S_api_Span))) h)
   ·rw [if_neg (ntrue hb7)] at h
    refine awp_exit ?_
    obtain rfl := Option.some.inj h
    exact gs [0, 1, 2, 3] [8] OutQ.norm
  ·intro e T H hq
   cases o4 with
   | inl ro4 =>
    obtain ⟨rfl, rfl, rfl⟩ := hq
    rw [outK_inl] at h
    obtain rfl := Option.some.inj h
    exact gm
   | inr so4 =>
    obtain ⟨rfl, rfl, rfl⟩ := hq
    rw [outK_inr] at h
    show awp ..
    refine awp_seq (g0 [8, 64, 65, 66] [] [(8, .ref 2 0), (64, .d (L51 p_m.Sides)), (65, vi (p_m.Sides.length : Int)), (66, vi 0)] [mc p_m, .vec [.d (L60 p_m.Borders), vi p_m.Step, .d (L60 p_m.Heights), .d (L51 p_m.Sides), vi p_m.Inks, .d (L51 p_m.Like), .d (L3 legend), .sl 2 3 0 so4.length] (List.replicate 42 0), .cells [.ref 1 0], .data (so4.flatMap cel60)] ?_)
    obtain ⟨o12, ho12, h⟩ := ob h
    refine awp_cut1 (OutQ (fun (ro12 : (Option S_colour_chart) × Int) => [(4, .d (OP89 ro12.1)), (5, vi ro12.2)]) (fun (ro12 : (Option S_colour_chart) × Int) => []) (fun (so12 : (List Int)) => [(8, .ref 2 0)]) (fun (so12 : (List Int)) => [mc p_m, .vec [.d (L60 p_m.Borders), vi p_m.Step, .d (L60 p_m.Heights), .d (L51 p_m.Sides), vi p_m.Inks, .d (L51 p_m.Like), .d (L3 legend), .sl 2 3 0 so4.length] so12, .cells [.ref 1 0], .data (so4.flatMap cel60)]) o12) ?_ ?_
    ·clear h
     have h := ho12
     clear ho12
     refine awp_selQ (gw 4 [8, 64, 65, 66] [(8, .ref 2 0), (64, .d (L51 p_m.Sides)), (65, vi (p_m.Sides.length : Int)), (66, vi 0)] [mc p_m, .vec [.d (L60 p_m.Borders), vi p_m.Step, .d (L60 p_m.Heights), .d (L51 p_m.Sides), vi p_m.Inks, .d (L51 p_m.Like), .d (L3 legend), .sl 2 3 0 so4.length] (List.replicate 42 0), .cells [.ref 1 0], .data (so4.flatMap cel60)] ?_)
     refine awp_block (awp_loop (n := fuel) ?_)
     refine awpN_ind (fun n (c13 : Int × (List Int)) => F64L2 fuel p_m legend so4 n c13) o12 (fun (c13 : Int × (List Int)) => [(8, .ref 2 0), (64, .d (L51 p_m.Sides)), (65, vi (p_m.Sides.length : Int)), (66, vi c13.1)]) (fun (c13 : Int × (List Int)) => [mc p_m, .vec [.d (L60 p_m.Borders), vi p_m.Step, .d (L60 p_m.Heights), .d (L51 p_m.Sides), vi p_m.Inks, .d (L51 p_m.Like), .d (L3 legend), .sl 2 3 0 so4.length] c13.2, .cells [.ref 1 0], .data (so4.flatMap cel60)]) (fun _ => rfl) ?_ fuel (0, (List.replicate 42 0)) h
     clear h
     intro n14 c13 h hrn14
     change F64L2 fuel p_m legend so4 (n14 + 1) c13 = some o12 at h
     rw [F64L2] at h
     refine g0 [8, 64, 65, 66, 67] [] [(8, .ref 2 0), (64, .d (L51 p_m.Sides)), (65, vi (p_m.Sides.length : Int)), (66, vi c13.1), (67, vb (decide (c13.1 < (p_m.Sides.length : Int))))] [mc p_m, .vec [.d (L60 p_m.Borders), vi p_m.Step, .d (L60 p_m.Heights), .d (L51 p_m.Sides), vi p_m.Inks, .d (L51 p_m.Like), .d (L3 legend), .sl 2 3 0 so4.length] c13.2, .cells [.ref 1 0], .data (so4.flatMap cel60)] ?_
     refine awp_seq (awp_cond (b := (decide (c13.1 < (p_m.Sides.length : Int)))) (by kernel_rfl) (fun hb15 => ?_) (fun hb15 => ?_))
     ·rw [if_pos hb15] at h
      refine awp_skip ?_
      show awp ..
      refine awp_seq (awp_block ?_)
      obtain ⟨x16, hx16, h⟩ := ob h
      refine gr [8, 12, 64, 65, 66] [.cells (cel51 x16)] [(8, .ref 2 0), (12, .ref 4 0), (64, .d (L51 p_m.Sides)), (65, vi (p_m.Sides.length : Int)), (66, vi c13.1)] [mc p_m, .vec [.d (L60 p_m.Borders), vi p_m.Step, .d (L60 p_m.Heights), .d (L51 p_m.Sides), vi p_m.Inks, .d (L51 p_m.Like), .d (L3 legend), .sl 2 3 0 so4.length] c13.2, .cells [.ref 1 0], .data (so4.flatMap cel60), .cells [vi x16.A, vi x16.B]] [IX51 p_m.Sides c13.1 x16] (idxOk cel51_len hx16) ?_
      obtain ⟨x17, hx17, h⟩ := ob h
      refine gr [8, 64, 65, 66, 72] [.no, .no, .hcall [(1, false), (3, true)] (.fn (.func 88) [] [.ref 2 0, .ref 3 0]) [.vec [.d (L60 p_m.Borders), vi p_m.Step, .d (L60 p_m.Heights), .d (L51 p_m.Sides), vi p_m.Inks, .d (L51 p_m.Like), .d (L3 legend), .sl 2 1 0 so4.length] c13.2, .fixed (so4.flatMap cel60), .cells [.ref 0 0], .cells [vi x17.1, vi x17.2]]] [(8, .ref 2 0), (64, .d (L51 p_m.Sides)), (65, vi (p_m.Sides.length : Int)), (66, vi c13.1), (72, .fn (.func 88) [] [.ref 5 0, .ref 6 0])] [mc p_m, .vec [.d (L60 p_m.Borders), vi p_m.Step, .d (L60 p_m.Heights), .d (L51 p_m.Sides), vi p_m.Inks, .d (L51 p_m.Like), .d (L3 legend), .sl 2 3 0 so4.length] c13.2, .cells [.ref 1 0], .data (so4.flatMap cel60), .cells [vi x16.A, vi x16.B], .cells [.ref 1 0], .cells [vi x17.1, vi x17.2]] [HCall Try.prog 72 [.ref 0 0, .d (.agg [(di x16.A), (di x16.B)])] [.vec [.d (L60 p_m.Borders), vi p_m.Step, .d (L60 p_m.Heights), .d (L51 p_m.Sides), vi p_m.Inks, .d (L51 p_m.Like), .d (L3 legend), .sl 2 1 0 so4.length] c13.2, .fixed (so4.flatMap cel60)] (.fn (.func 88) [] [.ref 2 0, .ref 3 0]) [.vec [.d (L60 p_m.Borders), vi p_m.Step, .d (L60 p_m.Heights), .d (L51 p_m.Sides), vi p_m.Inks, .d (L51 p_m.Like), .d (L3 legend), .sl 2 1 0 so4.length] c13.2, .fixed (so4.flatMap cel60), .cells [.ref 0 0], .cells [vi x17.1, vi x17.2]]] (ct72 hx17) ?_
      refine awp_block ?_
      obtain ⟨x18, hx18, h⟩ := ob h
      refine awp_range (ks := [8]) (ids := [(7, false), (2, false), (1, false), (3, true), (5, false), (6, false)]) (r := .tup []) (Hc := [.loop (some none) [73, 74] asn64x0 bdy64x0 158 [(8, .ref 1 0)], .cells [.ref 2 0], .vec [.d (L60 p_m.Borders), vi p_m.Step, .d (L60 p_m.Heights), .d (L51 p_m.Sides), vi p_m.Inks, .d (L51 p_m.Like), .d (L3 legend), .sl 2 3 0 so4.length] x18, .fixed (so4.flatMap cel60), .cells [.ref 2 0], .cells [vi x17.1, vi x17.2]]) none [(8, .ref 2 0), (64, .d (L51 p_m.Sides)), (65, vi (p_m.Sides.length : Int)), (66, vi c13.1), (72, .fn (.func 88) [] [.ref 5 0, .ref 6 0])] [mc p_m, .vec [.d (L60 p_m.Borders), vi p_m.Step, .d (L60 p_m.Heights), .d (L51 p_m.Sides), vi p_m.Inks, .d (L51 p_m.Like), .d (L3 legend), .sl 2 3 0 so4.length] x18, .cells [.ref 1 0], .data (so4.flatMap cel60), .cells [vi x16.A, vi x16.B], .cells [.ref 1 0], .cells [vi x17.1, vi x17.2], .data []] [HCall Try.prog 88 [.yld 0, .ref 4 0, .ref 5 0] [.loop (some none) [73, 74] asn64x0 bdy64x0 158 [(8, .ref 1 0)], .cells [.ref 2 0], .vec [.d (L60 p_m.Borders), vi p_m.Step, .d (L60 p_m.Heights), .d (L51 p_m.Sides), vi p_m.Inks, .d (L51 p_m.Like), .d (L3 legend), .sl 2 3 0 so4.length] c13.2, .fixed (so4.flatMap cel60), .cells [.ref 2 0], .cells [vi x17.1, vi x17.2]] (.tup []) [.loop (some none) [73, 74] asn64x0 bdy64x0 158 [(8, .ref 1 0)], .cells [.ref 2 0], .vec [.d (L60 p_m.Borders), vi p_m.Step, .d (L60 p_m.Heights), .d (L51 p_m.Sides), vi p_m.Inks, .d (L51 p_m.Like), .d (L3 legend), .sl 2 3 0 so4.length] x18, .fixed (so4.flatMap cel60), .cells [.ref 2 0], .cells [vi x17.1, vi x17.2]]] rfl (by kernel_rfl) (ct88 hx18) (fun _ => ?_) (fun c hc => absurd hc (by simp))
      show awp ..
      refine x0 [8, 64, 65, 66] [] [(8, .ref 2 0), (64, .d (L51 p_m.Sides)), (65, vi (p_m.Sides.length : Int)), (66, vi (w64 (c13.1 + 1)))] [mc p_m, .vec [.d (L60 p_m.Borders), vi p_m.Step, .d (L60 p_m.Heights), .d (L51 p_m.Sides), vi p_m.Inks, .d (L51 p_m.Like), .d (L3 legend), .sl 2 3 0 so4.length] x18, .cells [.ref 1 0], .data (so4.flatMap cel60), .cells [vi x16.A, vi x16.B], .cells [.ref 1 0], .cells [vi x17.1, vi x17.2], .data []] ?_
      exact gn 4 [8, 64, 65, 66] (hrn14 ((w64 (c13.1 + 1)), x18) h)
     ·rw [if_neg (ntrue hb15)] at h
      refine awp_exit ?_
      obtain rfl := Option.some.inj h
      exact gs [0, 1, 2, 3] [8] OutQ.norm
    ·intro e T H hq
     cases o12 with
     | inl ro12 =>
      obtain ⟨rfl, rfl, rfl⟩ := hq
      rw [outK_inl] at h
      obtain rfl := Option.some.inj h
      exact gm
     | inr so12 =>
      obtain ⟨rfl, rfl, rfl⟩ := hq
      rw [outK_inr] at h
      show awp ..
      refine awp_seq (g0 [8, 106, 107] [] [(8, .ref 2 0), (106, vi p_m.Inks), (107, vi 0)] [mc p_m, .vec [.d (L60 p_m.Borders), vi p_m.Step, .d (L60 p_m.Heights), .d (L51 p_m.Sides), vi p_m.Inks, .d (L51 p_m.Like), .d (L3 legend), .sl 2 3 0 so4.length] so12, .cells [.ref 1 0], .data (so4.flatMap cel60)] ?_)
      obtain ⟨o19, ho19, h⟩ := ob h
      refine awp_cut1 (OutQ (fun (ro19 : (Option S_colour_chart) × Int) => [(4, .d (OP89 ro19.1)), (5, vi ro19.2)]) (fun (ro19 : (Option S_colour_chart) × Int) => []) (fun (so19 : (List Int)) => [(8, .ref 2 0)]) (fun (so19 : (List Int)) => [mc p_m, .vec [.d (L60 p_m.Borders), vi p_m.Step, .d (L60 p_m.Heights), .d (L51 p_m.Sides), vi p_m.Inks, .d (L51 p_m.Like), .d (L3 legend), .sl 2 3 0 so4.length] so19, .cells [.ref 1 0], .data (so4.flatMap cel60)]) o19) ?_ ?_
      ·clear h
       have h := ho19
       clear ho19
       refine awp_selQ (gw 4 [8, 106, 107] [(8, .ref 2 0), (106, vi p_m.Inks), (107, vi 0)] [mc p_m, .vec [.d (L60 p_m.Borders), vi p_m.Step, .d (L60 p_m.Heights), .d (L51 p_m.Sides), vi p_m.Inks, .d (L51 p_m.Like), .d (L3 legend), .sl 2 3 0 so4.length] so12, .cells [.ref 1 0], .data (so4.flatMap cel60)] ?_)
       refine awp_block (awp_loop (n := fuel) ?_)
       refine awpN_ind (fun n (c20 : Int × (List Int)) => F64L3 p_m n c20) o19 (fun (c20 : Int × (List Int)) => [(8, .ref 2 0), (106, vi p_m.Inks), (107, vi c20.1)]) (fun (c20 : Int × (List Int)) => [mc p_m, .vec [.d (L60 p_m.Borders), vi p_m.Step, .d (L60 p_m.Heights), .d (L51 p_m.Sides), vi p_m.Inks, .d (L51 p_m.Like), .d (L3 legend), .sl 2 3 0 so4.length] c20.2, .cells [.ref 1 0], .data (so4.flatMap cel60)]) (fun _ => rfl) ?_ fuel (0, so12) h
       clear h
       intro n21 c20 h hrn21
       change F64L3 p_m (n21 + 1) c20 = some o19 at h
       rw [F64L3] at h
       refine g0 [8, 106, 107, 108] [] [(8, .ref 2 0), (106, vi p_m.Inks), (107, vi c20.1), (108, vb (decide (c20.1 < p_m.Inks)))] [mc p_m, .vec [.d (L60 p_m.Borders), vi p_m.Step, .d (L60 p_m.Heights), .d (L51 p_m.Sides), vi p_m.Inks, .d (L51 p_m.Like), .d (L3 legend), .sl 2 3 0 so4.length] c20.2, .cells [.ref 1 0], .data (so4.flatMap cel60)] ?_
       refine awp_seq (awp_cond (b := (decide (c20.1 < p_m.Inks))) (by kernel_rfl) (fun hb22 => ?_) (fun hb22 => ?_))
       ·rw [if_pos hb22] at h
        refine awp_skip ?_
        show awp ..
        refine awp_seq (awp_block ?_)
        refine g0 [8, 15, 106, 107] [] [(8, .ref 2 0), (15, vi c20.1), (106, vi p_m.Inks), (107, vi c20.1)] [mc p_m, .vec [.d (L60 p_m.Borders), vi p_m.Step, .d (L60 p_m.Heights), .d (L51 p_m.Sides), vi p_m.Inks, .d (L51 p_m.Like), .d (L3 legend), .sl 2 3 0 so4.length] c20.2, .cells [.ref 1 0], .data (so4.flatMap cel60)] ?_
        obtain ⟨x23, hx23, h⟩ := ob h
        obtain ⟨x24, hx24, h⟩ := ob h
        obtain ⟨x25, hx25, h⟩ := ob h
        refine awp_draw (T' := [(8, .ref 2 0), (106, vi p_m.Inks), (107, vi c20.1)]) (H' := [mc p_m, .vec [.d (L60 p_m.Borders), vi p_m.Step, .d (L60 p_m.Heights), .d (L51 p_m.Sides), vi p_m.Inks, .d (L51 p_m.Like), .d (L3 legend), .sl 2 3 0 so4.length] (c20.2.set (36 + c20.1.toNat * 1) (w64 ((1 : Int) * 2 ^ min c20.1.toNat 64))), .cells [.ref 1 0], .data (so4.flatMap cel60)]) (ps := [(0 ≤ c20.1), (0 ≤ c20.1 ∧ c20.1 < ((6 : Nat) : Int)), (([vi (w64 ((1 : Int) * 2 ^ min c20.1.toNat 64))] : List V).length = 1), StoreOk ([.d (L60 p_m.Borders), vi p_m.Step, .d (L60 p_m.Heights), .d (L51 p_m.Sides), vi p_m.Inks, .d (L51 p_m.Like), .d (L3 legend), .sl 2 3 0 so4.length] ++ c20.2.map vi) (44 + c20.1.toNat * 1) [vi (w64 ((1 : Int) * 2 ^ min c20.1.toNat 64))] ([.d (L60 p_m.Borders), vi p_m.Step, .d (L60 p_m.Heights), .d (L51 p_m.Sides), vi p_m.Inks, .d (L51 p_m.Like), .d (L3 legend), .sl 2 3 0 so4.length] ++ (c20.2.set (36 + c20.1.toNat * 1) (w64 ((1 : Int) * 2 ^ min c20.1.toNat 64))).map vi)]) tt_ok mixed (ks := [8, 106, 107]) (hs := [.no, .no, .no, .no, .no, .no, .no, .nums (c20.2.set (36 + c20.1.toNat * 1) (w64 ((1 : Int) * 2 ^ min c20.1.toNat 64)))]) (m := 6) (mid := [8, 106, 107, 111, 113, 115, 116]) (by kernel_rfl) (And.intro ((need_of hx23 : 0 ≤ c20.1)) (And.intro ((need_of hx24 : 0 ≤ c20.1 ∧ c20.1 < ((6 : Nat) : Int))) (And.intro ((rfl : ([vi (w64 ((1 : Int) * 2 ^ min c20.1.toNat 64))] : List V).length = 1)) (vecStore (p := 8) (pre := [.d (L60 p_m.Borders), vi p_m.Step, .d (L60 p_m.Heights), .d (L51 p_m.Sides), vi p_m.Inks, .d (L51 p_m.Like), .d (L3 legend), .sl 2 3 0 so4.length]) (k := 36 + c20.1.toNat * 1) rfl hx25 (by omega))))) ?_
        show awp ..
        refine x0 [8, 106, 107] [] [(8, .ref 2 0), (106, vi p_m.Inks), (107, vi (w64 (c20.1 + 1)))] [mc p_m, .vec [.d (L60 p_m.Borders), vi p_m.Step, .d (L60 p_m.Heights), .d (L51 p_m.Sides), vi p_m.Inks, .d (L51 p_m.Like), .d (L3 legend), .sl 2 3 0 so4.length] (c20.2.set (36 + c20.1.toNat * 1) (w64 ((1 : Int) * 2 ^ min c20.1.toNat 64))), .cells [.ref 1 0], .data (so4.flatMap cel60)] ?_
        exact gn 4 [8, 106, 107] (hrn21 ((w64 (c20.1 + 1)), (c20.2.set (36 + c20.1.toNat * 1) (w64 ((1 : Int) * 2 ^ min c20.1.toNat 64)))) h)
       ·rw [if_neg (ntrue hb22)] at h
        refine awp_exit ?_
        obtain rfl := Option.some.inj h
        exact gs [0, 1, 2, 3] [8] OutQ.norm
      ·intro e T H hq
       cases o19 with
       | inl ro19 =>
        obtain ⟨rfl, rfl, rfl⟩ := hq
        rw [outK_inl] at h
        obtain rfl := Option.some.inj h
        exact gm
       | inr so19 =>
        obtain ⟨rfl, rfl, rfl⟩ := hq
        rw [outK_inr] at h
        show awp ..
        refine awp_seq (g0 [8, 122, 123, 124] [] [(8, .ref 2 0), (122, .d (L51 p_m.Like)), (123, vi (p_m.Like.length : Int)), (124, vi 0)] [mc p_m, .vec [.d (L60 p_m.Borders), vi p_m.Step, .d (L60 p_m.Heights), .d (L51 p_m.Sides), vi p_m.Inks, .d (L51 p_m.Like), .d (L3 legend), .sl 2 3 0 so4.length] so19, .cells [.ref 1 0], .data (so4.flatMap cel60)] ?_)
        obtain ⟨o26, ho26, h⟩ := ob h
        refine awp_cut1 (OutQ (fun (ro26 : (Option S_colour_chart) × Int) => [(4, .d (OP89 ro26.1)), (5, vi ro26.2)]) (fun (ro26 : (Option S_colour_chart) × Int) => []) (fun (so26 : (List Int)) => [(8, .ref 2 0)]) (fun (so26 : (List Int)) => [mc p_m, .vec [.d (L60 p_m.Borders), vi p_m.Step, .d (L60 p_m.Heights), .d (L51 p_m.Sides), vi p_m.Inks, .d (L51 p_m.Like), .d (L3 legend), .sl 2 3 0 so4.length] so26, .cells [.ref 1 0], .data (so4.flatMap cel60)]) o26) ?_ ?_
        ·clear h
         have h := ho26
         clear ho26
         refine awp_selQ (gw 4 [8, 122, 123, 124] [(8, .ref 2 0), (122, .d (L51 p_m.Like)), (123, vi (p_m.Like.length : Int)), (124, vi 0)] [mc p_m, .vec [.d (L60 p_m.Borders), vi p_m.Step, .d (L60 p_m.Heights), .d (L51 p_m.Sides), vi p_m.Inks, .d (L51 p_m.Like), .d (L3 legend), .sl 2 3 0 so4.length] so19, .cells [.ref 1 0], .data (so4.flatMap cel60)] ?_)
         refine awp_block (awp_loop (n := fuel) ?_)
         refine awpN_ind (fun n (c27 : Int × (List Int)) => F64L4 p_m n c27) o26 (fun (c27 : Int × (List Int)) => [(8, .ref 2 0), (122, .d (L51 p_m.Like)), (123, vi (p_m.Like.length : Int)), (124, vi c27.1)]) (fun (c27 : Int × (List Int)) => [mc p_m, .vec [.d (L60 p_m.Borders), vi p_m.Step, .d (L60 p_m.Heights), .d (L51 p_m.Sides), vi p_m.Inks, .d (L51 p_m.Like), .d (L3 legend), .sl 2 3 0 so4.length] c27.2, .cells [.ref 1 0], .data (so4.flatMap cel60)]) (fun _ => rfl) ?_ fuel (0, so19) h
         clear h
         intro n28 c27 h hrn28
         change F64L4 p_m (n28 + 1) c27 = some o26 at h
         rw [F64L4] at h
         refine g0 [8, 122, 123, 124, 125] [] [(8, .ref 2 0), (122, .d (L51 p_m.Like)), (123, vi (p_m.Like.length : Int)), (124, vi c27.1), (125, vb (decide (c27.1 < (p_m.Like.length : Int))))] [mc p_m, .vec [.d (L60 p_m.Borders), vi p_m.Step, .d (L60 p_m.Heights), .d (L51 p_m.Sides), vi p_m.Inks, .d (L51 p_m.Like), .d (L3 legend), .sl 2 3 0 so4.length] c27.2, .cells [.ref 1 0], .data (so4.flatMap cel60)] ?_
         refine awp_seq (awp_cond (b := (decide (c27.1 < (p_m.Like.length : Int)))) (by kernel_rfl) (fun hb29 => ?_) (fun hb29 => ?_))
         ·rw [if_pos hb29] at h
          refine awp_skip ?_
          show awp ..
          refine awp_seq (awp_block ?_)
          obtain ⟨x30, hx30, h⟩ := ob h
          refine gr [8, 17, 122, 123, 124] [.cells (cel51 x30)] [(8, .ref 2 0), (17, .ref 4 0), (122, .d (L51 p_m.Like)), (123, vi (p_m.Like.length : Int)), (124, vi c27.1)] [mc p_m, .vec [.d (L60 p_m.Borders), vi p_m.Step, .d (L60 p_m.Heights), .d (L51 p_m.Sides), vi p_m.Inks, .d (L51 p_m.Like), .d (L3 legend), .sl 2 3 0 so4.length] c27.2, .cells [.ref 1 0], .data (so4.flatMap cel60), .cells [vi x30.A, vi x30.B]] [IX51 p_m.Like c27.1 x30] (idxOk cel51_len hx30) ?_
          obtain ⟨x31, hx31, h⟩ := ob h
          obtain ⟨x32, hx32, h⟩ := ob h
          obtain ⟨x33, hx33, h⟩ := ob h
          obtain ⟨x34, hx34, h⟩ := ob h
          obtain ⟨x35, hx35, h⟩ := ob h
          refine awp_sdraw tt_ok mixed (ks := [8, 17, 122, 123, 124]) (hs := [.no, .no, .no, .no, .no, .no, .vals [vi x32], .no, .no, .no, .no, .no, .no, .no, .nums (c27.2.set (36 + x30.A.toNat * 1) (Go.bits .or .i64 x32 (w64 ((1 : Int) * 2 ^ min x30.B.toNat 64))))]) 13 [8, 17, 122, 123, 124, 130, 138, 140, 141] [(8, .ref 2 0), (17, .ref 4 0), (122, .d (L51 p_m.Like)), (123, vi (p_m.Like.length : Int)), (124, vi c27.1)] [mc p_m, .vec [.d (L60 p_m.Borders), vi p_m.Step, .d (L60 p_m.Heights), .d (L51 p_m.Sides), vi p_m.Inks, .d (L51 p_m.Like), .d (L3 legend), .sl 2 3 0 so4.length] (c27.2.set (36 + x30.A.toNat * 1) (Go.bits .or .i64 x32 (w64 ((1 : Int) * 2 ^ min x30.B.toNat 64)))), .cells [.ref 1 0], .data (so4.flatMap cel60), .cells [vi x30.A, vi x30.B]] [(0 ≤ x30.A ∧ x30.A < ((6 : Nat) : Int)), LoadOk ([.d (L60 p_m.Borders), vi p_m.Step, .d (L60 p_m.Heights), .d (L51 p_m.Sides), vi p_m.Inks, .d (L51 p_m.Like), .d (L3 legend), .sl 2 3 0 so4.length] ++ c27.2.map vi) (44 + x30.A.toNat * 1) 1 [vi x32], (0 ≤ x30.B), (0 ≤ x30.A ∧ x30.A < ((6 : Nat) : Int)), (([vi (Go.bits .or .i64 x32 (w64 ((1 : Int) * 2 ^ min x30.B.toNat 64)))] : List V).length = 1), StoreOk ([.d (L60 p_m.Borders), vi p_m.Step, .d (L60 p_m.Heights), .d (L51 p_m.Sides), vi p_m.Inks, .d (L51 p_m.Like), .d (L3 legend), .sl 2 3 0 so4.length] ++ c27.2.map vi) (44 + x30.A.toNat * 1) [vi (Go.bits .or .i64 x32 (w64 ((1 : Int) * 2 ^ min x30.B.toNat 64)))] ([.d (L60 p_m.Borders), vi p_m.Step, .d (L60 p_m.Heights), .d (L51 p_m.Sides), vi p_m.Inks, .d (L51 p_m.Like), .d (L3 legend), .sl 2 3 0 so4.length] ++ (c27.2.set (36 + x30.A.toNat * 1) (Go.bits .or .i64 x32 (w64 ((1 : Int) * 2 ^ min x30.B.toNat 64)))).map vi)] (by kernel_rfl) (And.intro ((need_of hx31 : 0 ≤ x30.A ∧ x30.A < ((6 : Nat) : Int))) (And.intro (vecLoad (p := 8) (pre := [.d (L60 p_m.Borders), vi p_m.Step, .d (L60 p_m.Heights), .d (L51 p_m.Sides), vi p_m.Inks, .d (L51 p_m.Like), .d (L3 legend), .sl 2 3 0 so4.length]) (k := 36 + x30.A.toNat * 1) rfl hx32 (by omega)) (And.intro ((need_of hx33 : 0 ≤ x30.B)) (And.intro ((need_of hx34 : 0 ≤ x30.A ∧ x30.A < ((6 : Nat) : Int))) (And.intro ((rfl : ([vi (Go.bits .or .i64 x32 (w64 ((1 : Int) * 2 ^ min x30.B.toNat 64)))] : List V).length = 1)) (vecStore (p := 8) (pre := [.d (L60 p_m.Borders), vi p_m.Step, .d (L60 p_m.Heights), .d (L51 p_m.Sides), vi p_m.Inks, .d (L51 p_m.Like), .d (L3 legend), .sl 2 3 0 so4.length]) (k := 36 + x30.A.toNat * 1) rfl hx35 (by omega))))))) ?_
          obtain ⟨x36, hx36, h⟩ := ob h
          obtain ⟨x37, hx37, h⟩ := ob h
          obtain ⟨x38, hx38, h⟩ := ob h
          obtain ⟨x39, hx39, h⟩ := ob h
          obtain ⟨x40, hx40, h⟩ := ob h
          refine awp_draw (T' := [(8, .ref 2 0), (122, .d (L51 p_m.Like)), (123, vi (p_m.Like.length : Int)), (124, vi c27.1)]) (H' := [mc p_m, .vec [.d (L60 p_m.Borders), vi p_m.Step, .d (L60 p_m.Heights), .d (L51 p_m.Sides), vi p_m.Inks, .d (L51 p_m.Like), .d (L3 legend), .sl 2 3 0 so4.length] ((c27.2.set (36 + x30.A.toNat * 1) (Go.bits .or .i64 x32 (w64 ((1 : Int) * 2 ^ min x30.B.toNat 64)))).set (36 + x30.B.toNat * 1) (Go.bits .or .i64 x37 (w64 ((1 : Int) * 2 ^ min x30.A.toNat 64)))), .cells [.ref 1 0], .data (so4.flatMap cel60), .cells [vi x30.A, vi x30.B]]) (ps := [(0 ≤ x30.B ∧ x30.B < ((6 : Nat) : Int)), LoadOk ([.d (L60 p_m.Borders), vi p_m.Step, .d (L60 p_m.Heights), .d (L51 p_m.Sides), vi p_m.Inks, .d (L51 p_m.Like), .d (L3 legend), .sl 2 3 0 so4.length] ++ (c27.2.set (36 + x30.A.toNat * 1) (Go.bits .or .i64 x32 (w64 ((1 : Int) * 2 ^ min x30.B.toNat 64)))).map vi) (44 + x30.B.toNat * 1) 1 [vi x37], (0 ≤ x30.A), (0 ≤ x30.B ∧ x30.B < ((6 : Nat) : Int)), (([vi (Go.bits .or .i64 x37 (w64 ((1 : Int) * 2 ^ min x30.A.toNat 64)))] : List V).length = 1), StoreOk ([.d (L60 p_m.Borders), vi p_m.Step, .d (L60 p_m.Heights), .d (L51 p_m.Sides), vi p_m.Inks, .d (L51 p_m.Like), .d (L3 legend), .sl 2 3 0 so4.length] ++ (c27.2.set (36 + x30.A.toNat * 1) (Go.bits .or .i64 x32 (w64 ((1 : Int) * 2 ^ min x30.B.toNat 64)))).map vi) (44 + x30.B.toNat * 1) [vi (Go.bits .or .i64 x37 (w64 ((1 : Int) * 2 ^ min x30.A.toNat 64)))] ([.d (L60 p_m.Borders), vi p_m.Step, .d (L60 p_m.Heights), .d (L51 p_m.Sides), vi p_m.Inks, .d (L51 p_m.Like), .d (L3 legend), .sl 2 3 0 so4.length] ++ ((c27.2.set (36 + x30.A.toNat * 1) (Go.bits .or .i64 x32 (w64 ((1 : Int) * 2 ^ min x30.B.toNat 64)))).set (36 + x30.B.toNat * 1) (Go.bits .or .i64 x37 (w64 ((1 : Int) * 2 ^ min x30.A.toNat 64)))).map vi)]) tt_ok mixed (ks := [8, 122, 123, 124]) (hs := [.no, .no, .no, .no, .no, .no, .vals [vi x37], .no, .no, .no, .no, .no, .no, .no, .nums ((c27.2.set (36 + x30.A.toNat * 1) (Go.bits .or .i64 x32 (w64 ((1 : Int) * 2 ^ min x30.B.toNat 64)))).set (36 + x30.B.toNat * 1) (Go.bits .or .i64 x37 (w64 ((1 : Int) * 2 ^ min x30.A.toNat 64))))]) (m := 13) (mid := [8, 122, 123, 124, 144, 152, 154, 155]) (by kernel_rfl) (And.intro ((need_of hx36 : 0 ≤ x30.B ∧ x30.B < ((6 : Nat) : Int))) (And.intro (vecLoad (p := 8) (pre := [.d (L60 p_m.Borders), vi p_m.Step, .d (L60 p_m.Heights), .d (L51 p_m.Sides), vi p_m.Inks, .d (L51 p_m.Like), .d (L3 legend), .sl 2 3 0 so4.length]) (k := 36 + x30.B.toNat * 1) rfl hx37 (by omega)) (And.intro ((need_of hx38 : 0 ≤ x30.A)) (And.intro ((need_of hx39 : 0 ≤ x30.B ∧ x30.B < ((6 : Nat) : Int))) (And.intro ((rfl : ([vi (Go.bits .or .i64 x37 (w64 ((1 : Int) * 2 ^ min x30.A.toNat 64)))] : List V).length = 1)) (vecStore (p := 8) (pre := [.d (L60 p_m.Borders), vi p_m.Step, .d (L60 p_m.Heights), .d (L51 p_m.Sides), vi p_m.Inks, .d (L51 p_m.Like), .d (L3 legend), .sl 2 3 0 so4.length]) (k := 36 + x30.B.toNat * 1) rfl hx40 (by omega))))))) ?_
          show awp ..
          refine x0 [8, 122, 123, 124] [] [(8, .ref 2 0), (122, .d (L51 p_m.Like)), (123, vi (p_m.Like.length : Int)), (124, vi (w64 (c27.1 + 1)))] [mc p_m, .vec [.d (L60 p_m.Borders), vi p_m.Step, .d (L60 p_m.Heights), .d (L51 p_m.Sides), vi p_m.Inks, .d (L51 p_m.Like), .d (L3 legend), .sl 2 3 0 so4.length] ((c27.2.set (36 + x30.A.toNat * 1) (Go.bits .or .i64 x32 (w64 ((1 : Int) * 2 ^ min x30.B.toNat 64)))).set (36 + x30.B.toNat * 1) (Go.bits .or .i64 x37 (w64 ((1 : Int) * 2 ^ min x30.A.toNat 64)))), .cells [.ref 1 0], .data (so4.flatMap cel60), .cells [vi x30.A, vi x30.B]] ?_
          exact gn 4 [8, 122, 123, 124] (hrn28 ((w64 (c27.1 + 1)), ((c27.2.set (36 + x30.A.toNat * 1) (Go.bits .or .i64 x32 (w64 ((1 : Int) * 2 ^ min x30.B.toNat 64)))).set (36 + x30.B.toNat * 1) (Go.bits .or .i64 x37 (w64 ((1 : Int) * 2 ^ min x30.A.toNat 64))))) h)
         ·rw [if_neg (ntrue hb29)] at h
          refine awp_exit ?_
          obtain rfl := Option.some.inj h
          exact gs [0, 1, 2, 3] [8] OutQ.norm
        ·intro e T H hq
         cases o26 with
         | inl ro26 =>
          obtain ⟨rfl, rfl, rfl⟩ := hq
          rw [outK_inl] at h
          obtain rfl := Option.some.inj h
          exact gm
         | inr so26 =>
          obtain ⟨rfl, rfl, rfl⟩ := hq
          rw [outK_inr] at h
          show awp ..
          refine g0 [4, 5] [] [(4, .ref 1 0), (5, vi 0)] [mc p_m, .vec [.d (L60 p_m.Borders), vi p_m.Step, .d (L60 p_m.Heights), .d (L51 p_m.Sides), vi p_m.Inks, .d (L51 p_m.Like), .d (L3 legend), .sl 2 3 0 so4.length] so26, .cells [.ref 1 0], .data (so4.flatMap cel60)] ?_
          obtain rfl := Option.some.inj h
          refine gw 4 [4, 5] [(4, .ref 1 0), (5, vi 0)] [mc p_m, .vec [.d (L60 p_m.Borders), vi p_m.Step, .d (L60 p_m.Heights), .d (L51 p_m.Sides), vi p_m.Inks, .d (L51 p_m.Like), .d (L3 legend), .sl 2 3 0 so4.length] so26, .cells [.ref 1 0], .data (so4.flatMap cel60)] ?_
          refine awp_freezeV 1 7 3 (so4.flatMap cel60) [.d (L60 p_m.Borders), vi p_m.Step, .d (L60 p_m.Heights), .d (L51 p_m.Sides), vi p_m.Inks, .d (L51 p_m.Like), .d (L3 legend), .sl 2 3 0 so4.length] so26 (.sl 2 3 0 so4.length) (.d (L60 so4)) _ _ (ps := [(so4.flatMap cel60).length = so4.length * 2]) (by kernel_rfl) (by kernel_rfl) (by kernel_rfl) (by kernel_rfl) (flatMap_len cel60 2 cel60_len so4) rfl rfl ?_
          refine gw 4 [4, 5] [(4, .ref 1 0), (5, vi 0)] [mc p_m, .vec [.d (L60 p_m.Borders), vi p_m.Step, .d (L60 p_m.Heights), .d (L51 p_m.Sides), vi p_m.Inks, .d (L51 p_m.Like), .d (L3 legend), .d (L60 so4)] so26, .cells [.ref 1 0], .data (([] : List S_api_Span).flatMap cel60)] ?_
          refine awp_unvec 1 [.d (L60 p_m.Borders), vi p_m.Step, .d (L60 p_m.Heights), .d (L51 p_m.Sides), vi p_m.Inks, .d (L51 p_m.Like), .d (L3 legend), .d (L60 so4)] so26 _ (by kernel_rfl) rfl ?_
          refine awp_data 1 ([.d (L60 p_m.Borders), vi p_m.Step, .d (L60 p_m.Heights), .d (L51 p_m.Sides), vi p_m.Inks, .d (L51 p_m.Like), .d (L3 legend), .d (L60 so4)] ++ so26.map vi) ([(L60 p_m.Borders), (di p_m.Step), (L60 p_m.Heights), (L51 p_m.Sides), (di p_m.Inks), (L51 p_m.Like), (L3 legend), (L60 so4)] ++ so26.map di0) _ (by kernel_rfl) (by kernel_rfl) (map_d [(L60 p_m.Borders), (di p_m.Step), (L60 p_m.Heights), (L51 p_m.Sides), (di p_m.Inks), (L51 p_m.Like), (L3 legend), (L60 so4)] so26) rfl ?_
          refine awp_freeze 4 1 ([(L60 p_m.Borders), (di p_m.Step), (L60 p_m.Heights), (L51 p_m.Sides), (di p_m.Inks), (L51 p_m.Like), (L3 legend), (L60 so4)] ++ so26.map di0) (.ref 1 0) (.d (.optr true ([(L60 p_m.Borders), (di p_m.Step), (L60 p_m.Heights), (L51 p_m.Sides), (di p_m.Inks), (L51 p_m.Like), (L3 legend), (L60 so4)] ++ so26.map di0))) _ _ (ps := []) (by kernel_rfl) (by kernel_rfl) (by kernel_rfl) trivial rfl rfl ?_
          refine gw 4 [4, 5] [(4, .d (OP89 (some (⟨p_m, legend, so4, so26⟩ : S_colour_chart)))), (5, vi 0)] [mc p_m, .data [], .cells [.top], .data (([] : List S_api_Span).flatMap cel60)] ?_
          exact awp_ret gm
end Go.Proofs.Ytpkhbbboedoldaa
