/- That functions of the seat compute this. Printed by a program of mine. -/
import Derived.Test.YtallnifoeahpiaaS
import Derived.Test.YtallnifoeahpiaaCEB
import Derived.Test.YtallnifoeahpiaaCED
import Derived.Test.YtallnifoeahpiaaDEF
namespace Go.Proofs.Ytallnifoeahpiaa
open Go Go.Sx
set_option maxRecDepth 100000
set_option linter.unusedVariables false
theorem ct93  {p_x : Int} {res : Int} (h : F93 p_x = some res) : PCall Try.prog 93 [(.v (.int .u64 p_x))] (vi res) := by
 refine PCall.of_awp tt_ok (N := 35) Try.func93 rfl (by kernel_rfl) rfl (Nat.le_of_ble_eq_true rfl) rfl ?_
 unfold F93 at h
 refine g0 [0] [] [(0, .d (.v (.int .u64 p_x)))] [] ?_
 refine hr [0] [] [(0, .d (.v (.int .u64 (IntKind.u64.wrap ((Go.bits .and .u64 (p_x / 2 ^ min (1 : Int).toNat 64) 6148914691236517205) + (Go.bits .and .u64 p_x 6148914691236517205))))))] [(0 ≤ (1 : Int))] ((by decide : 0 ≤ (1 : Int))) ?_
 refine hr [0] [] [(0, .d (.v (.int .u64 (F93e1 p_x))))] [(0 ≤ (2 : Int))] ((by decide : 0 ≤ (2 : Int))) ?_
 refine hr [0] [] [(0, .d (.v (.int .u64 (Go.bits .and .u64 (IntKind.u64.wrap (((F93e1 p_x) / 2 ^ min (4 : Int).toNat 64) + (F93e1 p_x))) 1085102592571150095))))] [(0 ≤ (4 : Int))] ((by decide : 0 ≤ (4 : Int))) ?_
 refine hr [0] [] [(0, .d (.v (.int .u64 (F93e2 p_x))))] [(0 ≤ (8 : Int))] ((by decide : 0 ≤ (8 : Int))) ?_
 refine hr [0] [] [(0, .d (.v (.int .u64 (IntKind.u64.wrap ((F93e2 p_x) + ((F93e2 p_x) / 2 ^ min (16 : Int).toNat 64))))))] [(0 ≤ (16 : Int))] ((by decide : 0 ≤ (16 : Int))) ?_
 refine hr [0] [] [(0, .d (.v (.int .u64 (F93e3 p_x))))] [(0 ≤ (32 : Int))] ((by decide : 0 ≤ (32 : Int))) ?_
 refine h0 [2] [] [(2, vi (Go.bits .and .i64 (IntKind.i64.wrap (F93e3 p_x)) 127))] ?_
 obtain rfl := Option.some.inj h
 refine hw 0 [2] [(2, vi (Go.bits .and .i64 (IntKind.i64.wrap (F93e3 p_x)) 127))] ?_
 exact awp_ret gm
theorem ct72  {p_x : Int} {res : Int} (h : F72 p_x = some res) : PCall Try.prog 72 [(.v (.int .u64 p_x))] (vi res) := by
 refine PCall.of_awp tt_ok (N := 8) Try.func72 rfl (by kernel_rfl) rfl (Nat.le_of_ble_eq_true rfl) rfl ?_
 unfold F72 at h
 refine g0 [0] [] [(0, .d (.v (.int .u64 p_x)))] [] ?_
 refine awp_seq (awp_cond (b := false) (by kernel_rfl) (fun hb => absurd hb (by decide)) (fun hb => ?_))
 refine awp_skip ?_
 show awp ..
 obtain ⟨x1, hx1, h⟩ := ob h
 refine hr [2] [.no, .call [(.v (.int .u64 p_x))] (vi x1)] [(2, vi x1)] [PCall Try.prog 93 [(.v (.int .u64 p_x))] (vi x1)] (ct93 hx1) ?_
 obtain rfl := Option.some.inj h
 refine hw 0 [2] [(2, vi x1)] ?_
 exact awp_ret gm
theorem ct105  {p_x : Int} {res : Bool} (h : F105 p_x = some res) : PCall Try.prog 105 [(di p_x)] (vb res) := by
 refine PCall.of_awp tt_ok (N := 6) Try.func105 rfl (by kernel_rfl) rfl (Nat.le_of_ble_eq_true rfl) rfl ?_
 unfold F105 at h
 refine g0 [0] [] [(0, vi p_x)] [] ?_
 refine h0 [2] [] [(2, vb (p_x != p_x))] ?_
 obtain rfl := Option.some.inj h
 refine hw 0 [2] [(2, vb (p_x != p_x))] ?_
 exact awp_ret gm
theorem ct94  {p_x : Int} {y : Int} {res : Int} (h : F94 p_x y = some res) : PCall Try.prog 94 [(di p_x), (di y)] (vi res) := by
 refine PCall.of_awp tt_ok (N := 20) Try.func94 rfl (by kernel_rfl) rfl (Nat.le_of_ble_eq_true rfl) rfl ?_
 unfold F94 at h
 refine g0 [0, 1] [] [(0, vi p_x), (1, vi y)] [] ?_
 obtain ⟨x1, hx1, h⟩ := ob h
 refine hr [0, 1, 5] [.no, .call [(di p_x)] (vb x1)] [(0, vi p_x), (1, vi y), (5, vb x1)] [PCall Try.prog 105 [(di p_x)] (vb x1)] (ct105 hx1) ?_
 obtain ⟨x2, hx2, h⟩ := ob h
 refine hr [0, 1, 5, 6] [.no, .call [(di y)] (vb x2)] [(0, vi p_x), (1, vi y), (5, vb x1), (6, vb x2)] [PCall Try.prog 105 [(di y)] (vb x2)] (ct105 hx2) ?_
 refine awp_seq (h0 [0, 1, 6, 11] [] [(0, vi p_x), (1, vi y), (6, vb x2), (11, vb x1)] ?_)
 refine awp_cond (b := x1) (by kernel_rfl) (fun hb3 => ?_) (fun hb3 => ?_)
 ·rw [if_pos hb3] at h
  refine awp_seq (g0 [12] [] [(12, vb x2)] [] ?_)
  refine awp_cond (b := x2) (by kernel_rfl) (fun hb4 => ?_) (fun hb4 => ?_)
  ·rw [if_pos hb4] at h
   refine g0 [4] [] [(4, vi 0)] [] ?_
   obtain rfl := Option.some.inj h
   refine hw 0 [4] [(4, vi 0)] ?_
   exact awp_ret gm
  ·rw [if_neg (ntrue hb4)] at h
   refine awp_skip ?_
   show awp ..
   refine g0 [4] [] [(4, vi (-1))] [] ?_
   obtain rfl := Option.some.inj h
   refine hw 0 [4] [(4, vi (-1))] ?_
   exact awp_ret gm
 ·rw [if_neg (ntrue hb3)] at h
  refine awp_skip ?_
  show awp ..
  refine awp_seq (g0 [0, 1, 13] [] [(0, vi p_x), (1, vi y), (13, vb x2)] [] ?_)
  refine awp_cond (b := x2) (by kernel_rfl) (fun hb5 => ?_) (fun hb5 => ?_)
  ·rw [if_pos hb5] at h
   refine g0 [4] [] [(4, vi 1)] [] ?_
   obtain rfl := Option.some.inj h
   refine hw 0 [4] [(4, vi 1)] ?_
   exact awp_ret gm
  ·rw [if_neg (ntrue hb5)] at h
   refine awp_skip ?_
   show awp ..
   refine awp_seq (g0 [0, 1, 16] [] [(0, vi p_x), (1, vi y), (16, vb (decide (p_x < y)))] [] ?_)
   refine awp_cond (b := (decide (p_x < y))) (by kernel_rfl) (fun hb6 => ?_) (fun hb6 => ?_)
   ·rw [if_pos hb6] at h
    refine g0 [4] [] [(4, vi (-1))] [] ?_
    obtain rfl := Option.some.inj h
    refine hw 0 [4] [(4, vi (-1))] ?_
    exact awp_ret gm
   ·rw [if_neg (ntrue hb6)] at h
    refine awp_skip ?_
    show awp ..
    refine awp_seq (g0 [19] [] [(19, vb (decide (p_x > y)))] [] ?_)
    refine awp_cond (b := (decide (p_x > y))) (by kernel_rfl) (fun hb7 => ?_) (fun hb7 => ?_)
    ·rw [if_pos hb7] at h
     refine g0 [4] [] [(4, vi 1)] [] ?_
     obtain rfl := Option.some.inj h
     refine hw 0 [4] [(4, vi 1)] ?_
     exact awp_ret gm
    ·rw [if_neg (ntrue hb7)] at h
     refine awp_skip ?_
     show awp ..
     refine g0 [4] [] [(4, vi 0)] [] ?_
     obtain rfl := Option.some.inj h
     refine hw 0 [4] [(4, vi 0)] ?_
     exact awp_ret gm
theorem ct73 {fuel : Nat}  {p_s1 : (List Int)} {p_s2 : (List Int)} {res : Int} (h : F73 fuel p_s1 p_s2 = some res) : PCall Try.prog 73 [(L3 p_s1), dnil] (vi res) := by
 refine PCall.of_awp tt_ok (N := 36) Try.func73 rfl (by kernel_rfl) rfl (Nat.le_of_ble_eq_true rfl) rfl ?_
 unfold F73 at h
 refine g0 [0, 1] [] [(0, .d (L3 p_s1)), (1, .d dnil)] [] ?_
 refine awp_seq (h0 [0, 1, 9, 10, 11] [] [(0, .d (L3 p_s1)), (1, .d dnil), (9, .d (L3 p_s1)), (10, vl p_s1), (11, vi 0)] ?_)
 refine awp_laxT 1 _ (L3 ([] : List Int)) [(1, .d (L3 ([] : List Int))), (0, .d (L3 p_s1)), (9, .d (L3 p_s1)), (10, vl p_s1), (11, vi 0)] (by kernel_rfl) (.nil (e := 1)) (by kernel_rfl) ?_
 refine gw 0 [0, 1, 9, 10, 11] [(0, .d (L3 p_s1)), (1, .d (L3 ([] : List Int))), (9, .d (L3 p_s1)), (10, vl p_s1), (11, vi 0)] [] ?_
 obtain ⟨o2, ho2, h⟩ := ob h
 refine awp_cut1 (OutQ (fun (ro2 : Int) => [(4, vi ro2)]) (fun (ro2 : Int) => []) (fun (so2 : Unit) => [(0, .d (L3 p_s1)), (1, .d (L3 ([] : List Int)))]) (fun (so2 : Unit) => []) o2) ?_ ?_
 ·clear h
  have h := ho2
  clear ho2
  refine awp_selQ (gw 0 [0, 1, 9, 10, 11] [(0, .d (L3 p_s1)), (1, .d (L3 ([] : List Int))), (9, .d (L3 p_s1)), (10, vl p_s1), (11, vi 0)] [] ?_)
  refine awp_block (awp_loop (n := fuel) ?_)
  refine awpN_ind (fun n (c3 : Int) => F73L1 p_s1 n c3) o2 (fun (c3 : Int) => [(0, .d (L3 p_s1)), (1, .d (L3 ([] : List Int))), (9, .d (L3 p_s1)), (10, vl p_s1), (11, vi c3)]) (fun (c3 : Int) => []) (fun _ => rfl) ?_ fuel 0 h
  clear h
  intro n4 c3 h hrn4
  change F73L1 p_s1 (n4 + 1) c3 = some o2 at h
  rw [F73L1] at h
  refine g0 [0, 1, 9, 10, 11, 12] [] [(0, .d (L3 p_s1)), (1, .d (L3 ([] : List Int))), (9, .d (L3 p_s1)), (10, vl p_s1), (11, vi c3), (12, vb (decide (c3 < (p_s1.length : Int))))] [] ?_
  refine awp_seq (awp_cond (b := (decide (c3 < (p_s1.length : Int)))) (by kernel_rfl) (fun hb5 => ?_) (fun hb5 => ?_))
  ·rw [if_pos hb5] at h
   refine awp_skip ?_
   show awp ..
   refine awp_seq (awp_block ?_)
   obtain ⟨x6, hx6, h⟩ := ob h
   refine gr [0, 1, 5, 6, 9, 10, 11] [.no, .cells (cel3 x6)] [(0, .d (L3 p_s1)), (1, .d (L3 ([] : List Int))), (5, vi c3), (6, vi x6), (9, .d (L3 p_s1)), (10, vl p_s1), (11, vi c3)] [] [IX3 p_s1 c3 x6] (idxOk cel3_len hx6) ?_
   refine awp_seq (h0 [0, 1, 5, 6, 9, 10, 11, 19] [] [(0, .d (L3 p_s1)), (1, .d (L3 ([] : List Int))), (5, vi c3), (6, vi x6), (9, .d (L3 p_s1)), (10, vl p_s1), (11, vi c3), (19, vb (decide (c3 ≥ (([] : List Int).length : Int))))] ?_)
   refine awp_cond (b := (decide (c3 ≥ (([] : List Int).length : Int)))) (by kernel_rfl) (fun hb7 => ?_) (fun hb7 => ?_)
   ·rw [if_pos hb7] at h
    refine g0 [4] [] [(4, vi 1)] [] ?_
    obtain rfl := Option.some.inj h
    refine hw 0 [4] [(4, vi 1)] ?_
    exact awp_ret (gs [] [4] OutQ.ret)
   ·rw [if_neg (ntrue hb7)] at h
    refine awp_skip ?_
    show awp ..
    obtain ⟨x8, hx8, h⟩ := ob h
    refine gr [0, 1, 6, 7, 9, 10, 11] [.no, .no, .cells (cel3 x8)] [(0, .d (L3 p_s1)), (1, .d (L3 ([] : List Int))), (6, vi x6), (7, vi x8), (9, .d (L3 p_s1)), (10, vl p_s1), (11, vi c3)] [] [IX3 ([] : List Int) c3 x8] (idxOk cel3_len hx8) ?_
    obtain ⟨x9, hx9, h⟩ := ob h
    refine hr [0, 1, 8, 9, 10, 11] [.no, .no, .call [(di x6), (di x8)] (vi x9)] [(0, .d (L3 p_s1)), (1, .d (L3 ([] : List Int))), (8, vi x9), (9, .d (L3 p_s1)), (10, vl p_s1), (11, vi c3)] [PCall Try.prog 94 [(di x6), (di x8)] (vi x9)] (ct94 hx9) ?_
    refine h0 [0, 1, 8, 9, 10, 11, 28] [] [(0, .d (L3 p_s1)), (1, .d (L3 ([] : List Int))), (8, vi x9), (9, .d (L3 p_s1)), (10, vl p_s1), (11, vi c3), (28, vb (x9 != 0))] ?_
    refine awp_cond (b := (x9 != 0)) (by kernel_rfl) (fun hb10 => ?_) (fun hb10 => ?_)
    ·rw [if_pos hb10] at h
     refine g0 [4] [] [(4, vi x9)] [] ?_
     obtain rfl := Option.some.inj h
     refine hw 0 [4] [(4, vi x9)] ?_
     exact awp_ret (gs [] [4] OutQ.ret)
    ·rw [if_neg (ntrue hb10)] at h
     refine awp_skip ?_
     show awp ..
     refine x0 [0, 1, 9, 10, 11] [] [(0, .d (L3 p_s1)), (1, .d (L3 ([] : List Int))), (9, .d (L3 p_s1)), (10, vl p_s1), (11, vi (w64 (c3 + 1)))] [] ?_
     exact gn 0 [0, 1, 9, 10, 11] (hrn4 (w64 (c3 + 1)) h)
  ·rw [if_neg (ntrue hb5)] at h
   refine awp_exit ?_
   obtain rfl := Option.some.inj h
   exact gs [] [0, 1] OutQ.norm
 ·intro e T H hq
  cases o2 with
  | inl ro2 =>
   obtain ⟨rfl, rfl, rfl⟩ := hq
   rw [outK_inl] at h
   obtain rfl := Option.some.inj h
   exact gm
  | inr so2 =>
   obtain ⟨rfl, rfl, rfl⟩ := hq
   rw [outK_inr] at h
   show awp ..
   refine awp_seq (g0 [35] [] [(35, vb (decide ((p_s1.length : Int) < (([] : List Int).length : Int))))] [] ?_)
   refine awp_cond (b := (decide ((p_s1.length : Int) < (([] : List Int).length : Int)))) (by kernel_rfl) (fun hb11 => ?_) (fun hb11 => ?_)
   ·rw [if_pos hb11] at h
    refine g0 [4] [] [(4, vi (-1))] [] ?_
    obtain rfl := Option.some.inj h
    refine hw 0 [4] [(4, vi (-1))] ?_
    exact awp_ret gm
   ·rw [if_neg (ntrue hb11)] at h
    refine awp_skip ?_
    show awp ..
    refine g0 [4] [] [(4, vi 0)] [] ?_
    obtain rfl := Option.some.inj h
    refine hw 0 [4] [(4, vi 0)] ?_
    exact awp_ret gm
theorem ct73v1 {fuel : Nat}  {p_s1 : (List Int)} {p_s2 : (List Int)} {res : Int} (h : F73v1 fuel p_s1 p_s2 = some res) : PCall Try.prog 73 [(L3 p_s1), (L3 p_s2)] (vi res) := by
 refine PCall.of_awp tt_ok (N := 36) Try.func73 rfl (by kernel_rfl) rfl (Nat.le_of_ble_eq_true rfl) rfl ?_
 unfold F73v1 at h
 refine g0 [0, 1] [] [(0, .d (L3 p_s1)), (1, .d (L3 p_s2))] [] ?_
 refine awp_seq (h0 [0, 1, 9, 10, 11] [] [(0, .d (L3 p_s1)), (1, .d (L3 p_s2)), (9, .d (L3 p_s1)), (10, vl p_s1), (11, vi 0)] ?_)
 obtain ⟨o1, ho1, h⟩ := ob h
 refine awp_cut1 (OutQ (fun (ro1 : Int) => [(4, vi ro1)]) (fun (ro1 : Int) => []) (fun (so1 : Unit) => [(0, .d (L3 p_s1)), (1, .d (L3 p_s2))]) (fun (so1 : Unit) => []) o1) ?_ ?_
 ·clear h
  have h := ho1
  clear ho1
  refine awp_selQ (gw 0 [0, 1, 9, 10, 11] [(0, .d (L3 p_s1)), (1, .d (L3 p_s2)), (9, .d (L3 p_s1)), (10, vl p_s1), (11, vi 0)] [] ?_)
  refine awp_block (awp_loop (n := fuel) ?_)
  refine awpN_ind (fun n (c2 : Int) => F73v1L1 p_s1 p_s2 n c2) o1 (fun (c2 : Int) => [(0, .d (L3 p_s1)), (1, .d (L3 p_s2)), (9, .d (L3 p_s1)), (10, vl p_s1), (11, vi c2)]) (fun (c2 : Int) => []) (fun _ => rfl) ?_ fuel 0 h
  clear h
  intro n3 c2 h hrn3
  change F73v1L1 p_s1 p_s2 (n3 + 1) c2 = some o1 at h
  rw [F73v1L1] at h
  refine g0 [0, 1, 9, 10, 11, 12] [] [(0, .d (L3 p_s1)), (1, .d (L3 p_s2)), (9, .d (L3 p_s1)), (10, vl p_s1), (11, vi c2), (12, vb (decide (c2 < (p_s1.length : Int))))] [] ?_
  refine awp_seq (awp_cond (b := (decide (c2 < (p_s1.length : Int)))) (by kernel_rfl) (fun hb4 => ?_) (fun hb4 => ?_))
  ·rw [if_pos hb4] at h
   refine awp_skip ?_
   show awp ..
   refine awp_seq (awp_block ?_)
   obtain ⟨x5, hx5, h⟩ := ob h
   refine gr [0, 1, 5, 6, 9, 10, 11] [.no, .cells (cel3 x5)] [(0, .d (L3 p_s1)), (1, .d (L3 p_s2)), (5, vi c2), (6, vi x5), (9, .d (L3 p_s1)), (10, vl p_s1), (11, vi c2)] [] [IX3 p_s1 c2 x5] (idxOk cel3_len hx5) ?_
   refine awp_seq (h0 [0, 1, 5, 6, 9, 10, 11, 19] [] [(0, .d (L3 p_s1)), (1, .d (L3 p_s2)), (5, vi c2), (6, vi x5), (9, .d (L3 p_s1)), (10, vl p_s1), (11, vi c2), (19, vb (decide (c2 ≥ (p_s2.length : Int))))] ?_)
   refine awp_cond (b := (decide (c2 ≥ (p_s2.length : Int)))) (by kernel_rfl) (fun hb6 => ?_) (fun hb6 => ?_)
   ·rw [if_pos hb6] at h
    refine g0 [4] [] [(4, vi 1)] [] ?_
    obtain rfl := Option.some.inj h
    refine hw 0 [4] [(4, vi 1)] ?_
    exact awp_ret (gs [] [4] OutQ.ret)
   ·rw [if_neg (ntrue hb6)] at h
    refine awp_skip ?_
    show awp ..
    obtain ⟨x7, hx7, h⟩ := ob h
    refine gr [0, 1, 6, 7, 9, 10, 11] [.no, .no, .cells (cel3 x7)] [(0, .d (L3 p_s1)), (1, .d (L3 p_s2)), (6, vi x5), (7, vi x7), (9, .d (L3 p_s1)), (10, vl p_s1), (11, vi c2)] [] [IX3 p_s2 c2 x7] (idxOk cel3_len hx7) ?_
    obtain ⟨x8, hx8, h⟩ := ob h
    refine hr [0, 1, 8, 9, 10, 11] [.no, .no, .call [(di x5), (di x7)] (vi x8)] [(0, .d (L3 p_s1)), (1, .d (L3 p_s2)), (8, vi x8), (9, .d (L3 p_s1)), (10, vl p_s1), (11, vi c2)] [PCall Try.prog 94 [(di x5), (di x7)] (vi x8)] (ct94 hx8) ?_
    refine h0 [0, 1, 8, 9, 10, 11, 28] [] [(0, .d (L3 p_s1)), (1, .d (L3 p_s2)), (8, vi x8), (9, .d (L3 p_s1)), (10, vl p_s1), (11, vi c2), (28, vb (x8 != 0))] ?_
    refine awp_cond (b := (x8 != 0)) (by kernel_rfl) (fun hb9 => ?_) (fun hb9 => ?_)
    ·rw [if_pos hb9] at h
     refine g0 [4] [] [(4, vi x8)] [] ?_
     obtain rfl := Option.some.inj h
     refine hw 0 [4] [(4, vi x8)] ?_
     exact awp_ret (gs [] [4] OutQ.ret)
    ·rw [if_neg (ntrue hb9)] at h
     refine awp_skip ?_
     show awp ..
     refine x0 [0, 1, 9, 10, 11] [] [(0, .d (L3 p_s1)), (1, .d (L3 p_s2)), (9, .d (L3 p_s1)), (10, vl p_s1), (11, vi (w64 (c2 + 1)))] [] ?_
     exact gn 0 [0, 1, 9, 10, 11] (hrn3 (w64 (c2 + 1)) h)
  ·rw [if_neg (ntrue hb4)] at h
   refine awp_exit ?_
   obtain rfl := Option.some.inj h
   exact gs [] [0, 1] OutQ.norm
 ·intro e T H hq
  cases o1 with
  | inl ro1 =>
   obtain ⟨rfl, rfl, rfl⟩ := hq
   rw [outK_inl] at h
   obtain rfl := Option.some.inj h
   exact gm
  | inr so1 =>
   obtain ⟨rfl, rfl, rfl⟩ := hq
   rw [outK_inr] at h
   show awp ..
   refine awp_seq (g0 [35] [] [(35, vb (decide ((p_s1.length : Int) < (p_s2.length : Int))))] [] ?_)
   refine awp_cond (b := (decide ((p_s1.length : Int) < (p_s2.length : Int)))) (by kernel_rfl) (fun hb10 => ?_) (fun hb10 => ?_)
   ·rw [if_pos hb10] at h
    refine g0 [4] [] [(4, vi (-1))] [] ?_
    obtain rfl := Option.some.inj h
    refine hw 0 [4] [(4, vi (-1))] ?_
    exact awp_ret gm
   ·rw [if_neg (ntrue hb10)] at h
    refine awp_skip ?_
    show awp ..
    refine g0 [4] [] [(4, vi 0)] [] ?_
    obtain rfl := Option.some.inj h
    refine hw 0 [4] [(4, vi 0)] ?_
    exact awp_ret gm
theorem ct32 {fuel : Nat}  {p_c : S_api_EdCase} {res : (List Int) × Int} (h : F32 fuel p_c = some res) : PCall Try.prog 32 [(ca p_c)] (.tup [.d (L3 res.1), vi res.2]) := by
 refine PCall.of_awp tt_ok (N := 79) Try.func32 rfl (by kernel_rfl) rfl (Nat.le_of_ble_eq_true rfl) rfl ?_
 unfold F32 at h
 refine g0 [1, 2, 3] [] [(1, rf 0), (2, .d dnil), (3, vi 0)] [cs p_c] ?_
 refine awp_scope ?_
 obtain ⟨x1, hx1, h⟩ := ob h
 cases x1 with
 | inl y2 =>
  rw [outK_inl] at h
  refine gr [1, 4, 5] [.no, .hcall [] (.tup [rf 0, vi y2.1]) [sv y2.2.1 y2.2.2.1 y2.2.2.2.1 y2.2.2.2.2.1 1, mq y2.2.2.2.2.2]] [(1, rf 0), (4, rf 1), (5, vi y2.1)] [cs p_c, sv y2.2.1 y2.2.2.1 y2.2.2.2.1 y2.2.2.2.2.1 2, mq y2.2.2.2.2.2] [HCall Try.prog 57 [.d (ca p_c)] [] (.tup [rf 0, vi y2.1]) [sv y2.2.1 y2.2.2.1 y2.2.2.2.1 y2.2.2.2.2.1 1, mq y2.2.2.2.2.2]] (ct57v1 hx1) ?_
  refine awp_seq (h0 [1, 4, 5, 19] [] [(1, rf 0), (4, rf 1), (5, vi y2.1), (19, vb (y2.1 != 0))] ?_)
  refine awp_cond (b := (y2.1 != 0)) (by kernel_rfl) (fun hb3 => ?_) (fun hb3 => ?_)
  ·rw [if_pos hb3] at h
   refine g0 [2, 3] [] [(2, .d dnil), (3, vi y2.1)] [cs p_c, sv y2.2.1 y2.2.2.1 y2.2.2.2.1 y2.2.2.2.2.1 2, mq y2.2.2.2.2.2] ?_
   obtain rfl := Option.some.inj h
   refine hw 3 [2, 3] [(2, .d dnil), (3, vi y2.1)] ?_
   refine awp_laxT 2 _ (L3 ([] : List Int)) _ (by kernel_rfl) (.nil (e := 1)) rfl ?_
   refine gw 3 [2, 3] [(2, .d (L3 ([] : List Int))), (3, vi y2.1)] [cs p_c, sv y2.2.1 y2.2.2.1 y2.2.2.2.1 y2.2.2.2.2.1 2, mq y2.2.2.2.2.2] ?_
   exact awp_ret gm
  ·rw [if_neg (ntrue hb3)] at h
   refine awp_skip ?_
   show awp ..
   refine g0 [1, 4, 6] [] [(1, rf 0), (4, rf 1), (6, .d dnil)] [cs p_c, sv y2.2.1 y2.2.2.1 y2.2.2.2.1 y2.2.2.2.2.1 2, mq y2.2.2.2.2.2] ?_
   refine h0 [1, 4, 6, 7] [] [(1, rf 0), (4, rf 1), (6, .d dnil), (7, vi (w64 ((p_c.Edges.length : Int) + 1)))] ?_
   refine awp_seq (awp_label ?_)
   show awp ..
   refine awp_seq ?_
   obtain ⟨x4, hx4, h⟩ := ob h
   refine gr [1, 4, 6, 7, 28, 29] [] [(1, rf 0), (4, rf 1), (6, .d dnil), (7, vi (w64 ((p_c.Edges.length : Int) + 1))), (28, vi (w64 ((1 : Int) * 2 ^ min (p_c.Edges.length : Int).toNat 64))), (29, vi 0)] [cs p_c, sv y2.2.1 y2.2.2.1 y2.2.2.2.1 y2.2.2.2.2.1 2, mq y2.2.2.2.2.2] [(0 ≤ (p_c.Edges.length : Int))] ((need_of hx4 : 0 ≤ (p_c.Edges.length : Int))) ?_
   refine awp_nil 6 1 (by kernel_rfl) ?_
   refine awp_eq (T' := [(6, .sl 1 3 0 ([] : List Int).length), (1, rf 0), (4, rf 1), (7, vi (w64 ((p_c.Edges.length : Int) + 1))), (28, vi (w64 ((1 : Int) * 2 ^ min (p_c.Edges.length : Int).toNat 64))), (29, vi 0)]) (H' := [cs p_c, sv y2.2.1 y2.2.2.1 y2.2.2.2.1 y2.2.2.2.2.1 2, mq y2.2.2.2.2.2, .data (([] : List Int).flatMap cel3)]) (by kernel_rfl) (by kernel_rfl) ?_
   refine gw 4 [1, 4, 6, 7, 28, 29] [(1, rf 0), (4, rf 1), (6, .sl 1 3 0 ([] : List Int).length), (7, vi (w64 ((p_c.Edges.length : Int) + 1))), (28, vi (w64 ((1 : Int) * 2 ^ min (p_c.Edges.length : Int).toNat 64))), (29, vi 0)] [cs p_c, sv y2.2.1 y2.2.2.1 y2.2.2.2.1 y2.2.2.2.2.1 2, mq y2.2.2.2.2.2, .data (([] : List Int).flatMap cel3)] ?_
   obtain ⟨o6, ho6, h⟩ := ob h
   refine awp_cut1 (OutQ (fun (ro6 : (List Int) × Int) => [(2, .d (L3 ro6.1)), (3, vi ro6.2)]) (fun (ro6 : (List Int) × Int) => []) (fun (so6 : (List Int)) => [(6, .sl 1 3 0 so6.length)]) (fun (so6 : (List Int)) => [cs p_c, sv y2.2.1 y2.2.2.1 y2.2.2.2.1 y2.2.2.2.2.1 2, mq y2.2.2.2.2.2, .data (so6.flatMap cel3)]) o6) ?_ ?_
   ·clear h
    have h := ho6
    clear ho6
    refine awp_selQ (gw 4 [1, 4, 6, 7, 28, 29] [(1, rf 0), (4, rf 1), (6, .sl 1 3 0 ([] : List Int).length), (7, vi (w64 ((p_c.Edges.length : Int) + 1))), (28, vi (w64 ((1 : Int) * 2 ^ min (p_c.Edges.length : Int).toNat 64))), (29, vi 0)] [cs p_c, sv y2.2.1 y2.2.2.1 y2.2.2.2.1 y2.2.2.2.2.1 2, mq y2.2.2.2.2.2, .data (([] : List Int).flatMap cel3)] ?_)
    refine awp_block (awp_loop (n := fuel) ?_)
    refine awpN_ind (fun n (c7 : Int × Int × (List Int)) => F32L1 fuel p_c y2 n c7) o6 (fun (c7 : Int × Int × (List Int)) => [(1, rf 0), (4, rf 1), (6, .sl 1 3 0 c7.2.2.length), (7, vi c7.1), (28, vi (w64 ((1 : Int) * 2 ^ min (p_c.Edges.length : Int).toNat 64))), (29, vi c7.2.1)]) (fun (c7 : Int × Int × (List Int)) => [cs p_c, sv y2.2.1 y2.2.2.1 y2.2.2.2.1 y2.2.2.2.2.1 2, mq y2.2.2.2.2.2, .data (c7.2.2.flatMap cel3)]) (fun _ => rfl) ?_ fuel ((w64 ((p_c.Edges.length : Int) + 1)), 0, ([] : List Int)) h
    clear h
    intro n8 c7 h hrn8
    change F32L1 fuel p_c y2 (n8 + 1) c7 = some o6 at h
    rw [F32L1] at h
    refine g0 [1, 4, 6, 7, 28, 29, 30] [] [(1, rf 0), (4, rf 1), (6, .sl 1 3 0 c7.2.2.length), (7, vi c7.1), (28, vi (w64 ((1 : Int) * 2 ^ min (p_c.Edges.length : Int).toNat 64))), (29, vi c7.2.1), (30, vb (decide (c7.2.1 < (w64 ((1 : Int) * 2 ^ min (p_c.Edges.length : Int).toNat 64)))))] [cs p_c, sv y2.2.1 y2.2.2.1 y2.2.2.2.1 y2.2.2.2.2.1 2, mq y2.2.2.2.2.2, .data (c7.2.2.flatMap cel3)] ?_
    refine awp_seq (awp_cond (b := (decide (c7.2.1 < (w64 ((1 : Int) * 2 ^ min (p_c.Edges.length : Int).toNat 64))))) (by kernel_rfl) (fun hb9 => ?_) (fun hb9 => ?_))
    ·rw [if_pos hb9] at h
     refine awp_skip ?_
     show awp ..
     refine awp_seq (awp_block ?_)
     refine g0 [1, 4, 6, 7, 8, 28, 29] [] [(1, rf 0), (4, rf 1), (6, .sl 1 3 0 c7.2.2.length), (7, vi c7.1), (8, vi c7.2.1), (28, vi (w64 ((1 : Int) * 2 ^ min (p_c.Edges.length : Int).toNat 64))), (29, vi c7.2.1)] [cs p_c, sv y2.2.1 y2.2.2.1 y2.2.2.2.1 y2.2.2.2.2.1 2, mq y2.2.2.2.2.2, .data (c7.2.2.flatMap cel3)] ?_
     refine awp_seq ?_
     obtain ⟨x10, hx10, h⟩ := ob h
     refine hr [1, 4, 6, 7, 8, 28, 29, 36] [.no, .no, .call [(.v (.int .u64 (IntKind.u64.wrap c7.2.1)))] (vi x10)] [(1, rf 0), (4, rf 1), (6, .sl 1 3 0 c7.2.2.length), (7, vi c7.1), (8, vi c7.2.1), (28, vi (w64 ((1 : Int) * 2 ^ min (p_c.Edges.length : Int).toNat 64))), (29, vi c7.2.1), (36, vb (decide (x10 > c7.1)))] [PCall Try.prog 72 [(.v (.int .u64 (IntKind.u64.wrap c7.2.1)))] (vi x10)] (ct72 hx10) ?_
     refine awp_cond (b := (decide (x10 > c7.1))) (by kernel_rfl) (fun hb11 => ?_) (fun hb11 => ?_)
     ·rw [if_pos hb11] at h
      refine awp_exit ?_
      show awp ..
      refine x0 [1, 4, 6, 7, 28, 29] [] [(1, rf 0), (4, rf 1), (6, .sl 1 3 0 c7.2.2.length), (7, vi c7.1), (28, vi (w64 ((1 : Int) * 2 ^ min (p_c.Edges.length : Int).toNat 64))), (29, vi (w64 (c7.2.1 + 1)))] [cs p_c, sv y2.2.1 y2.2.2.1 y2.2.2.2.1 y2.2.2.2.2.1 2, mq y2.2.2.2.2.2, .data (c7.2.2.flatMap cel3)] ?_
      exact gn 4 [1, 4, 6, 7, 28, 29] (hrn8 (c7.1, (w64 (c7.2.1 + 1)), c7.2.2) h)
     ·rw [if_neg (ntrue hb11)] at h
      refine awp_skip ?_
      show awp ..
      refine g0 [1, 4, 6, 7, 8, 9, 28, 29] [] [(1, rf 0), (4, rf 1), (6, .sl 1 3 0 c7.2.2.length), (7, vi c7.1), (8, vi c7.2.1), (9, .d dnil), (28, vi (w64 ((1 : Int) * 2 ^ min (p_c.Edges.length : Int).toNat 64))), (29, vi c7.2.1)] [cs p_c, sv y2.2.1 y2.2.2.1 y2.2.2.2.1 y2.2.2.2.2.1 2, mq y2.2.2.2.2.2, .data (c7.2.2.flatMap cel3)] ?_
      refine awp_seq (h0 [1, 4, 6, 7, 8, 9, 28, 29, 39, 40] [] [(1, rf 0), (4, rf 1), (6, .sl 1 3 0 c7.2.2.length), (7, vi c7.1), (8, vi c7.2.1), (9, .d dnil), (28, vi (w64 ((1 : Int) * 2 ^ min (p_c.Edges.length : Int).toNat 64))), (29, vi c7.2.1), (39, vl p_c.Edges), (40, vi 0)] ?_)
      refine awp_nil 9 1 (by kernel_rfl) ?_
      refine awp_eq (T' := [(9, .sl 1 4 0 ([] : List Int).length), (1, rf 0), (4, rf 1), (6, .sl 1 3 0 c7.2.2.length), (7, vi c7.1), (8, vi c7.2.1), (28, vi (w64 ((1 : Int) * 2 ^ min (p_c.Edges.length : Int).toNat 64))), (29, vi c7.2.1), (39, vl p_c.Edges), (40, vi 0)]) (H' := [cs p_c, sv y2.2.1 y2.2.2.1 y2.2.2.2.1 y2.2.2.2.2.1 2, mq y2.2.2.2.2.2, .data (c7.2.2.flatMap cel3), .data (([] : List Int).flatMap cel3)]) (by kernel_rfl) (by kernel_rfl) ?_
      refine gw 5 [1, 4, 6, 7, 8, 9, 28, 29, 39, 40] [(1, rf 0), (4, rf 1), (6, .sl 1 3 0 c7.2.2.length), (7, vi c7.1), (8, vi c7.2.1), (9, .sl 1 4 0 ([] : List Int).length), (28, vi (w64 ((1 : Int) * 2 ^ min (p_c.Edges.length : Int).toNat 64))), (29, vi c7.2.1), (39, vl p_c.Edges), (40, vi 0)] [cs p_c, sv y2.2.1 y2.2.2.1 y2.2.2.2.1 y2.2.2.2.2.1 2, mq y2.2.2.2.2.2, .data (c7.2.2.flatMap cel3), .data (([] : List Int).flatMap cel3)] ?_
      obtain ⟨o13, ho13, h⟩ := ob h
      refine awp_cut1 (OutQ (fun (ro13 : (List Int) × Int) => [(2, .d (L3 ro13.1)), (3, vi ro13.2)]) (fun (ro13 : (List Int) × Int) => []) (fun (so13 : (List Int)) => [(1, rf 0), (4, rf 1), (6, .sl 1 3 0 c7.2.2.length), (7, vi c7.1), (8, vi c7.2.1), (9, .sl 1 4 0 so13.length), (28, vi (w64 ((1 : Int) * 2 ^ min (p_c.Edges.length : Int).toNat 64))), (29, vi c7.2.1)]) (fun (so13 : (List Int)) => [cs p_c, sv y2.2.1 y2.2.2.1 y2.2.2.2.1 y2.2.2.2.2.1 2, mq y2.2.2.2.2.2, .data (c7.2.2.flatMap cel3), .data (so13.flatMap cel3)]) o13) ?_ ?_
      ·clear h
       have h := ho13
       clear ho13
       refine awp_selQ (gw 5 [1, 4, 6, 7, 8, 9, 28, 29, 39, 40] [(1, rf 0), (4, rf 1), (6, .sl 1 3 0 c7.2.2.length), (7, vi c7.1), (8, vi c7.2.1), (9, .sl 1 4 0 ([] : List Int).length), (28, vi (w64 ((1 : Int) * 2 ^ min (p_c.Edges.length : Int).toNat 64))), (29, vi c7.2.1), (39, vl p_c.Edges), (40, vi 0)] [cs p_c, sv y2.2.1 y2.2.2.1 y2.2.2.2.1 y2.2.2.2.2.1 2, mq y2.2.2.2.2.2, .data (c7.2.2.flatMap cel3), .data (([] : List Int).flatMap cel3)] ?_)
       refine awp_block (awp_loop (n := fuel) ?_)
       refine awpN_ind (fun n (c14 : Int × (List Int)) => F32L2 p_c c7 n c14) o13 (fun (c14 : Int × (List Int)) => [(1, rf 0), (4, rf 1), (6, .sl 1 3 0 c7.2.2.length), (7, vi c7.1), (8, vi c7.2.1), (9, .sl 1 4 0 c14.2.length), (28, vi (w64 ((1 : Int) * 2 ^ min (p_c.Edges.length : Int).toNat 64))), (29, vi c7.2.1), (39, vl p_c.Edges), (40, vi c14.1)]) (fun (c14 : Int × (List Int)) => [cs p_c, sv y2.2.1 y2.2.2.1 y2.2.2.2.1 y2.2.2.2.2.1 2, mq y2.2.2.2.2.2, .data (c7.2.2.flatMap cel3), .data (c14.2.flatMap cel3)]) (fun _ => rfl) ?_ fuel (0, ([] : List Int)) h
       clear h
       intro n15 c14 h hrn15
       change F32L2 p_c c7 (n15 + 1) c14 = some o13 at h
       rw [F32L2] at h
       refine g0 [1, 4, 6, 7, 8, 9, 28, 29, 39, 40, 41] [] [(1, rf 0), (4, rf 1), (6, .sl 1 3 0 c7.2.2.length), (7, vi c7.1), (8, vi c7.2.1), (9, .sl 1 4 0 c14.2.length), (28, vi (w64 ((1 : Int) * 2 ^ min (p_c.Edges.length : Int).toNat 64))), (29, vi c7.2.1), (39, vl p_c.Edges), (40, vi c14.1), (41, vb (decide (c14.1 < (p_c.Edges.length : Int))))] [cs p_c, sv y2.2.1 y2.2.2.1 y2.2.2.2.1 y2.2.2.2.2.1 2, mq y2.2.2.2.2.2, .data (c7.2.2.flatMap cel3), .data (c14.2.flatMap cel3)] ?_
       refine awp_seq (awp_cond (b := (decide (c14.1 < (p_c.Edges.length : Int)))) (by kernel_rfl) (fun hb16 => ?_) (fun hb16 => ?_))
       ·rw [if_pos hb16] at h
        refine awp_skip ?_
        show awp ..
        refine awp_seq (awp_block ?_)
        refine g0 [1, 4, 6, 7, 8, 9, 10, 28, 29, 39, 40] [] [(1, rf 0), (4, rf 1), (6, .sl 1 3 0 c7.2.2.length), (7, vi c7.1), (8, vi c7.2.1), (9, .sl 1 4 0 c14.2.length), (10, vi c14.1), (28, vi (w64 ((1 : Int) * 2 ^ min (p_c.Edges.length : Int).toNat 64))), (29, vi c7.2.1), (39, vl p_c.Edges), (40, vi c14.1)] [cs p_c, sv y2.2.1 y2.2.2.1 y2.2.2.2.1 y2.2.2.2.2.1 2, mq y2.2.2.2.2.2, .data (c7.2.2.flatMap cel3), .data (c14.2.flatMap cel3)] ?_
        obtain ⟨x17, hx17, h⟩ := ob h
        refine hr [1, 4, 6, 7, 8, 9, 10, 28, 29, 39, 40, 47] [] [(1, rf 0), (4, rf 1), (6, .sl 1 3 0 c7.2.2.length), (7, vi c7.1), (8, vi c7.2.1), (9, .sl 1 4 0 c14.2.length), (10, vi c14.1), (28, vi (w64 ((1 : Int) * 2 ^ min (p_c.Edges.length : Int).toNat 64))), (29, vi c7.2.1), (39, vl p_c.Edges), (40, vi c14.1), (47, vb ((Go.bits .and .i64 (c7.2.1 / 2 ^ min c14.1.toNat 64) 1) == 1))] [(0 ≤ c14.1)] ((need_of hx17 : 0 ≤ c14.1)) ?_
        refine awp_cond (b := ((Go.bits .and .i64 (c7.2.1 / 2 ^ min c14.1.toNat 64) 1) == 1)) (by kernel_rfl) (fun hb18 => ?_) (fun hb18 => ?_)
        ·rw [if_pos hb18] at h
         obtain ⟨x19, hx19, h⟩ := ob h
         refine xr [1, 4, 6, 7, 8, 9, 28, 29, 39, 40] [.no, .no, .no, .list (c14.2 ++ ([c14.1] : List Int)).length ((c14.2 ++ ([c14.1] : List Int)).flatMap cel3)] [(1, rf 0), (4, rf 1), (6, .sl 1 3 0 c7.2.2.length), (7, vi c7.1), (8, vi c7.2.1), (9, .sl 1 4 0 (c14.2 ++ ([c14.1] : List Int)).length), (28, vi (w64 ((1 : Int) * 2 ^ min (p_c.Edges.length : Int).toNat 64))), (29, vi c7.2.1), (39, vl p_c.Edges), (40, vi c14.1)] [cs p_c, sv y2.2.1 y2.2.2.1 y2.2.2.2.1 y2.2.2.2.2.1 2, mq y2.2.2.2.2.2, .data (c7.2.2.flatMap cel3), .data ((c14.2 ++ ([c14.1] : List Int)).flatMap cel3)] [AppendOk ((c14.2.flatMap cel3).map .d) c14.2.length ([c14.1] : List Int).length (c14.2 ++ ([c14.1] : List Int)).length 1 8 (([c14.1] : List Int).flatMap cel3) ((c14.2 ++ ([c14.1] : List Int)).flatMap cel3)] (appendOk cel3_len (need_of hx19)) ?_
         show awp ..
         refine y0 [1, 4, 6, 7, 8, 9, 28, 29, 39, 40] [] [(1, rf 0), (4, rf 1), (6, .sl 1 3 0 c7.2.2.length), (7, vi c7.1), (8, vi c7.2.1), (9, .sl 1 4 0 (c14.2 ++ ([c14.1] : List Int)).length), (28, vi (w64 ((1 : Int) * 2 ^ min (p_c.Edges.length : Int).toNat 64))), (29, vi c7.2.1), (39, vl p_c.Edges), (40, vi (w64 (c14.1 + 1)))] ?_
         exact gn 5 [1, 4, 6, 7, 8, 9, 28, 29, 39, 40] (hrn15 ((w64 (c14.1 + 1)), (c14.2 ++ ([c14.1] : List Int))) h)
        ·rw [if_neg (ntrue hb18)] at h
         refine awp_skip ?_
         show awp ..
         refine x0 [1, 4, 6, 7, 8, 9, 28, 29, 39, 40] [] [(1, rf 0), (4, rf 1), (6, .sl 1 3 0 c7.2.2.length), (7, vi c7.1), (8, vi c7.2.1), (9, .sl 1 4 0 c14.2.length), (28, vi (w64 ((1 : Int) * 2 ^ min (p_c.Edges.length : Int).toNat 64))), (29, vi c7.2.1), (39, vl p_c.Edges), (40, vi (w64 (c14.1 + 1)))] [cs p_c, sv y2.2.1 y2.2.2.1 y2.2.2.2.1 y2.2.2.2.2.1 2, mq y2.2.2.2.2.2, .data (c7.2.2.flatMap cel3), .data (c14.2.flatMap cel3)] ?_
         exact gn 5 [1, 4, 6, 7, 8, 9, 28, 29, 39, 40] (hrn15 ((w64 (c14.1 + 1)), c14.2) h)
       ·rw [if_neg (ntrue hb16)] at h
        refine awp_exit ?_
        obtain rfl := Option.some.inj h
        exact gs [0, 1, 2, 3, 4] [1, 4, 6, 7, 8, 9, 28, 29] OutQ.norm
      ·intro e T H hq
       cases o13 with
       | inl ro13 =>
        obtain ⟨rfl, rfl, rfl⟩ := hq
        rw [outK_inl] at h
        obtain rfl := Option.some.inj h
        exact gs [] [2, 3] OutQ.ret
       | inr so13 =>
        obtain ⟨rfl, rfl, rfl⟩ := hq
        rw [outK_inr] at h
        show awp ..
        refine awp_seq ?_
        obtain ⟨x20, hx20, h⟩ := ob h
        refine gr [1, 4, 6, 7, 8, 9, 28, 29, 62] [.no, .no, .no, .no, .no, .no, .no, .call [(L3 so13), (L3 c7.2.2)] (vi x20)] [(1, rf 0), (4, rf 1), (6, .sl 1 3 0 c7.2.2.length), (7, vi c7.1), (8, vi c7.2.1), (9, .sl 1 4 0 so13.length), (28, vi (w64 ((1 : Int) * 2 ^ min (p_c.Edges.length : Int).toNat 64))), (29, vi c7.2.1), (62, vb (cond ((so13.length : Int) == c7.1) (decide (x20 ≥ 0)) false))] [cs p_c, sv y2.2.1 y2.2.2.1 y2.2.2.2.1 y2.2.2.2.2.1 2, mq y2.2.2.2.2.2, .data (c7.2.2.flatMap cel3), .data (so13.flatMap cel3)] [(((so13.length : Int) == c7.1) = true → ((so13.length : Int) == c7.1) = true), (((so13.length : Int) == c7.1) = true → ((so13.length : Int) == c7.1) = true), (((so13.length : Int) == c7.1) = true → argsOk [cs p_c, sv y2.2.1 y2.2.2.1 y2.2.2.2.1 y2.2.2.2.2.1 2, mq y2.2.2.2.2.2, .data (c7.2.2.flatMap cel3), .data (so13.flatMap cel3)] [.sl 1 4 0 so13.length, .sl 1 3 0 c7.2.2.length] [(L3 so13), (L3 c7.2.2)]), (((so13.length : Int) == c7.1) = true → PCall Try.prog 73 [(L3 so13), (L3 c7.2.2)] (vi x20)), (((so13.length : Int) == c7.1) = true → ((so13.length : Int) == c7.1) = true), (((so13.length : Int) == c7.1) = true → ((so13.length : Int) == c7.1) = true)] (And.intro (id) (And.intro (id) (And.intro ((fun hg => (And.intro (lentOk cel3_len rfl) (And.intro (lentOk cel3_len rfl) trivial)))) (And.intro ((fun hg => ct73v1 (optG_of hx20 hg))) (And.intro (id) (id)))))) ?_
        refine awp_cond (b := (cond ((so13.length : Int) == c7.1) (decide (x20 ≥ 0)) false)) (by kernel_rfl) (fun hb21 => ?_) (fun hb21 => ?_)
        ·rw [if_pos hb21] at h
         refine awp_exit ?_
         show awp ..
         refine x0 [1, 4, 6, 7, 28, 29] [] [(1, rf 0), (4, rf 1), (6, .sl 1 3 0 c7.2.2.length), (7, vi c7.1), (28, vi (w64 ((1 : Int) * 2 ^ min (p_c.Edges.length : Int).toNat 64))), (29, vi (w64 (c7.2.1 + 1)))] [cs p_c, sv y2.2.1 y2.2.2.1 y2.2.2.2.1 y2.2.2.2.2.1 2, mq y2.2.2.2.2.2, .data (c7.2.2.flatMap cel3), .data (so13.flatMap cel3)] ?_
         exact gn 4 [1, 4, 6, 7, 28, 29] (hrn8 (c7.1, (w64 (c7.2.1 + 1)), c7.2.2) h)
        ·rw [if_neg (ntrue hb21)] at h
         refine awp_skip ?_
         show awp ..
         obtain ⟨x22, hx22, h⟩ := ob h
         refine gr [1, 4, 6, 7, 9, 12, 28, 29] [.no, .no, .no, .no, .no, .hcall [(1, false), (2, false)] (.tup [.d (NL3 x22.1), .d (NL126 x22.2)]) [sv y2.2.1 y2.2.2.1 y2.2.2.2.1 y2.2.2.2.2.1 1, mq y2.2.2.2.2.2]] [(1, rf 0), (4, rf 1), (6, .sl 1 3 0 c7.2.2.length), (7, vi c7.1), (9, .sl 1 4 0 so13.length), (12, .d (NL126 x22.2)), (28, vi (w64 ((1 : Int) * 2 ^ min (p_c.Edges.length : Int).toNat 64))), (29, vi c7.2.1)] [cs p_c, sv y2.2.1 y2.2.2.1 y2.2.2.2.1 y2.2.2.2.2.1 2, mq y2.2.2.2.2.2, .data (c7.2.2.flatMap cel3), .data (so13.flatMap cel3)] [HCall Try.prog 64 [rf 0, vl p_c.Sheets, vi c7.2.1] [sv y2.2.1 y2.2.2.1 y2.2.2.2.1 y2.2.2.2.2.1 1, mq y2.2.2.2.2.2] (.tup [.d (NL3 x22.1), .d (NL126 x22.2)]) [sv y2.2.1 y2.2.2.1 y2.2.2.2.1 y2.2.2.2.2.1 1, mq y2.2.2.2.2.2]] (ct64 hx22) ?_
         refine hr [1, 4, 6, 7, 9, 28, 29, 73] [.no, .nil (Nat.beq x22.2.length 0)] [(1, rf 0), (4, rf 1), (6, .sl 1 3 0 c7.2.2.length), (7, vi c7.1), (9, .sl 1 4 0 so13.length), (28, vi (w64 ((1 : Int) * 2 ^ min (p_c.Edges.length : Int).toNat 64))), (29, vi c7.2.1), (73, vb (Nat.beq x22.2.length 0))] [NilIs (NL126 x22.2) (Nat.beq x22.2.length 0)] (nilIs_nl) ?_
         refine awp_cond (b := (Nat.beq x22.2.length 0)) (by kernel_rfl) (fun hb23 => ?_) (fun hb23 => ?_)
         ·rw [if_pos hb23] at h
          refine x0 [1, 4, 6, 7, 28, 29] [] [(1, rf 0), (4, rf 1), (6, .sl 1 4 0 so13.length), (7, vl so13), (28, vi (w64 ((1 : Int) * 2 ^ min (p_c.Edges.length : Int).toNat 64))), (29, vi c7.2.1)] [cs p_c, sv y2.2.1 y2.2.2.1 y2.2.2.2.1 y2.2.2.2.2.1 2, mq y2.2.2.2.2.2, .data (c7.2.2.flatMap cel3), .data (so13.flatMap cel3)] ?_
          show awp ..
          refine y0 [1, 4, 6, 7, 28, 29] [] [(1, rf 0), (4, rf 1), (6, .sl 1 4 0 so13.length), (7, vl so13), (28, vi (w64 ((1 : Int) * 2 ^ min (p_c.Edges.length : Int).toNat 64))), (29, vi (w64 (c7.2.1 + 1)))] ?_
          exact awpN_sel [0, 1, 2, 4] [1, 4, 6, 7, 28, 29] _ _ (by kernel_rfl) (by kernel_rfl) (by kernel_rfl) (hrn8 ((so13.length : Int), (w64 (c7.2.1 + 1)), so13) h)
         ·rw [if_neg (ntrue hb23)] at h
          refine awp_skip ?_
          show awp ..
          refine x0 [1, 4, 6, 7, 28, 29] [] [(1, rf 0), (4, rf 1), (6, .sl 1 3 0 c7.2.2.length), (7, vi c7.1), (28, vi (w64 ((1 : Int) * 2 ^ min (p_c.Edges.length : Int).toNat 64))), (29, vi (w64 (c7.2.1 + 1)))] [cs p_c, sv y2.2.1 y2.2.2.1 y2.2.2.2.1 y2.2.2.2.2.1 2, mq y2.2.2.2.2.2, .data (c7.2.2.flatMap cel3), .data (so13.flatMap cel3)] ?_
          exact gn 4 [1, 4, 6, 7, 28, 29] (hrn8 (c7.1, (w64 (c7.2.1 + 1)), c7.2.2) h)
    ·rw [if_neg (ntrue hb9)] at h
     refine awp_exit ?_
     obtain rfl := Option.some.inj h
     exact gs [0, 1, 2, 3] [6] OutQ.norm
   ·intro e T H hq
    cases o6 with
    | inl ro6 =>
     obtain ⟨rfl, rfl, rfl⟩ := hq
     rw [outK_inl] at h
     obtain rfl := Option.some.inj h
     exact gm
    | inr so6 =>
     obtain ⟨rfl, rfl, rfl⟩ := hq
     rw [outK_inr] at h
     show awp ..
     refine g0 [2, 3] [] [(2, .sl 1 3 0 so6.length), (3, vi 0)] [cs p_c, sv y2.2.1 y2.2.2.1 y2.2.2.2.1 y2.2.2.2.2.1 2, mq y2.2.2.2.2.2, .data (so6.flatMap cel3)] ?_
     obtain rfl := Option.some.inj h
     refine hw 4 [2, 3] [(2, .sl 1 3 0 so6.length), (3, vi 0)] ?_
     refine awp_freeze 2 3 (so6.flatMap cel3) (.sl 1 3 0 so6.length) (.d (L3 so6)) _ _ (ps := [(so6.flatMap cel3).length = so6.length * 1]) (by kernel_rfl) (by kernel_rfl) (by kernel_rfl) (flatMap_len cel3 1 cel3_len so6) rfl rfl ?_
     refine gw 4 [2, 3] [(2, .d (L3 so6)), (3, vi 0)] [cs p_c, sv y2.2.1 y2.2.2.1 y2.2.2.2.1 y2.2.2.2.2.1 2, mq y2.2.2.2.2.2, .data (([] : List Int).flatMap cel3)] ?_
     exact awp_ret gm
 | inr y24 =>
  rw [outK_inr] at h
  refine gr [1, 4, 5] [.no, .hcall [] (.tup [.d (.v (.pointer none)), vi y24]) []] [(1, rf 0), (4, .d (.v (.pointer none))), (5, vi y24)] [cs p_c] [HCall Try.prog 57 [.d (ca p_c)] [] (.tup [.d (.v (.pointer none)), vi y24]) []] (ct57v1 hx1) ?_
  refine awp_seq (h0 [1, 4, 5, 19] [] [(1, rf 0), (4, .d (.v (.pointer none))), (5, vi y24), (19, vb (y24 != 0))] ?_)
  refine awp_cond (b := (y24 != 0)) (by kernel_rfl) (fun hb25 => ?_) (fun hb25 => ?_)
  ·rw [if_pos hb25] at h
   refine g0 [2, 3] [] [(2, .d dnil), (3, vi y24)] [cs p_c] ?_
   obtain rfl := Option.some.inj h
   refine hw 1 [2, 3] [(2, .d dnil), (3, vi y24)] ?_
   refine awp_laxT 2 _ (L3 ([] : List Int)) _ (by kernel_rfl) (.nil (e := 1)) rfl ?_
   refine gw 1 [2, 3] [(2, .d (L3 ([] : List Int))), (3, vi y24)] [cs p_c] ?_
   exact awp_ret gm
  ·rw [if_neg (ntrue hb25)] at h
   refine awp_skip ?_
   show awp ..
   refine g0 [1, 4, 6] [] [(1, rf 0), (4, .d (.v (.pointer none))), (6, .d dnil)] [cs p_c] ?_
   refine h0 [1, 4, 6, 7] [] [(1, rf 0), (4, .d (.v (.pointer none))), (6, .d dnil), (7, vi (w64 ((p_c.Edges.length : Int) + 1)))] ?_
   refine awp_seq (awp_label ?_)
   show awp ..
   refine awp_seq ?_
   obtain ⟨x26, hx26, h⟩ := ob h
   refine gr [1, 4, 6, 7, 28, 29] [] [(1, rf 0), (4, .d (.v (.pointer none))), (6, .d dnil), (7, vi (w64 ((p_c.Edges.length : Int) + 1))), (28, vi (w64 ((1 : Int) * 2 ^ min (p_c.Edges.length : Int).toNat 64))), (29, vi 0)] [cs p_c] [(0 ≤ (p_c.Edges.length : Int))] ((need_of hx26 : 0 ≤ (p_c.Edges.length : Int))) ?_
   obtain ⟨o27, ho27, h⟩ := ob h
   refine awp_cut1 (OutQ (fun (ro27 : (List Int) × Int) => [(2, .d (L3 ro27.1)), (3, vi ro27.2)]) (fun (ro27 : (List Int) × Int) => []) (fun (so27 : Unit) => [(6, .d dnil)]) (fun (so27 : Unit) => [cs p_c]) o27) ?_ ?_
   ·clear h
    have h := ho27
    clear ho27
    refine awp_selQ (gw 1 [1, 4, 6, 7, 28, 29] [(1, rf 0), (4, .d (.v (.pointer none))), (6, .d dnil), (7, vi (w64 ((p_c.Edges.length : Int) + 1))), (28, vi (w64 ((1 : Int) * 2 ^ min (p_c.Edges.length : Int).toNat 64))), (29, vi 0)] [cs p_c] ?_)
    refine awp_block (awp_loop (n := fuel) ?_)
    refine awpN_ind (fun n (c28 : Int) => F32L3 fuel p_c n c28) o27 (fun (c28 : Int) => [(1, rf 0), (4, .d (.v (.pointer none))), (6, .d dnil), (7, vi (w64 ((p_c.Edges.length : Int) + 1))), (28, vi (w64 ((1 : Int) * 2 ^ min (p_c.Edges.length : Int).toNat 64))), (29, vi c28)]) (fun (c28 : Int) => [cs p_c]) (fun _ => rfl) ?_ fuel 0 h
    clear h
    intro n29 c28 h hrn29
    change F32L3 fuel p_c (n29 + 1) c28 = some o27 at h
    rw [F32L3] at h
    refine g0 [1, 4, 6, 7, 28, 29, 30] [] [(1, rf 0), (4, .d (.v (.pointer none))), (6, .d dnil), (7, vi (w64 ((p_c.Edges.length : Int) + 1))), (28, vi (w64 ((1 : Int) * 2 ^ min (p_c.Edges.length : Int).toNat 64))), (29, vi c28), (30, vb (decide (c28 < (w64 ((1 : Int) * 2 ^ min (p_c.Edges.length : Int).toNat 64)))))] [cs p_c] ?_
    refine awp_seq (awp_cond (b := (decide (c28 < (w64 ((1 : Int) * 2 ^ min (p_c.Edges.length : Int).toNat 64))))) (by kernel_rfl) (fun hb30 => ?_) (fun hb30 => ?_))
    ·rw [if_pos hb30] at h
     refine awp_skip ?_
     show awp ..
     refine awp_seq (awp_block ?_)
     refine g0 [1, 4, 6, 7, 8, 28, 29] [] [(1, rf 0), (4, .d (.v (.pointer none))), (6, .d dnil), (7, vi (w64 ((p_c.Edges.length : Int) + 1))), (8, vi c28), (28, vi (w64 ((1 : Int) * 2 ^ min (p_c.Edges.length : Int).toNat 64))), (29, vi c28)] [cs p_c] ?_
     refine awp_seq ?_
     obtain ⟨x31, hx31, h⟩ := ob h
     refine hr [1, 4, 6, 7, 8, 28, 29, 36] [.no, .no, .call [(.v (.int .u64 (IntKind.u64.wrap c28)))] (vi x31)] [(1, rf 0), (4, .d (.v (.pointer none))), (6, .d dnil), (7, vi (w64 ((p_c.Edges.length : Int) + 1))), (8, vi c28), (28, vi (w64 ((1 : Int) * 2 ^ min (p_c.Edges.length : Int).toNat 64))), (29, vi c28), (36, vb (decide (x31 > (w64 ((p_c.Edges.length : Int) + 1)))))] [PCall Try.prog 72 [(.v (.int .u64 (IntKind.u64.wrap c28)))] (vi x31)] (ct72 hx31) ?_
     refine awp_cond (b := (decide (x31 > (w64 ((p_c.Edges.length : Int) + 1))))) (by kernel_rfl) (fun hb32 => ?_) (fun hb32 => ?_)
     ·rw [if_pos hb32] at h
      refine awp_exit ?_
      show awp ..
      refine x0 [1, 4, 6, 7, 28, 29] [] [(1, rf 0), (4, .d (.v (.pointer none))), (6, .d dnil), (7, vi (w64 ((p_c.Edges.length : Int) + 1))), (28, vi (w64 ((1 : Int) * 2 ^ min (p_c.Edges.length : Int).toNat 64))), (29, vi (w64 (c28 + 1)))] [cs p_c] ?_
      exact gn 1 [1, 4, 6, 7, 28, 29] (hrn29 (w64 (c28 + 1)) h)
     ·rw [if_neg (ntrue hb32)] at h
      refine awp_skip ?_
      show awp ..
      refine g0 [1, 4, 6, 7, 8, 9, 28, 29] [] [(1, rf 0), (4, .d (.v (.pointer none))), (6, .d dnil), (7, vi (w64 ((p_c.Edges.length : Int) + 1))), (8, vi c28), (9, .d dnil), (28, vi (w64 ((1 : Int) * 2 ^ min (p_c.Edges.length : Int).toNat 64))), (29, vi c28)] [cs p_c] ?_
      refine awp_seq (h0 [1, 4, 6, 7, 8, 9, 28, 29, 39, 40] [] [(1, rf 0), (4, .d (.v (.pointer none))), (6, .d dnil), (7, vi (w64 ((p_c.Edges.length : Int) + 1))), (8, vi c28), (9, .d dnil), (28, vi (w64 ((1 : Int) * 2 ^ min (p_c.Edges.length : Int).toNat 64))), (29, vi c28), (39, vl p_c.Edges), (40, vi 0)] ?_)
      refine awp_nil 9 1 (by kernel_rfl) ?_
      refine awp_eq (T' := [(9, .sl 1 1 0 ([] : List Int).length), (1, rf 0), (4, .d (.v (.pointer none))), (6, .d dnil), (7, vi (w64 ((p_c.Edges.length : Int) + 1))), (8, vi c28), (28, vi (w64 ((1 : Int) * 2 ^ min (p_c.Edges.length : Int).toNat 64))), (29, vi c28), (39, vl p_c.Edges), (40, vi 0)]) (H' := [cs p_c, .data (([] : List Int).flatMap cel3)]) (by kernel_rfl) (by kernel_rfl) ?_
      refine gw 2 [1, 4, 6, 7, 8, 9, 28, 29, 39, 40] [(1, rf 0), (4, .d (.v (.pointer none))), (6, .d dnil), (7, vi (w64 ((p_c.Edges.length : Int) + 1))), (8, vi c28), (9, .sl 1 1 0 ([] : List Int).length), (28, vi (w64 ((1 : Int) * 2 ^ min (p_c.Edges.length : Int).toNat 64))), (29, vi c28), (39, vl p_c.Edges), (40, vi 0)] [cs p_c, .data (([] : List Int).flatMap cel3)] ?_
      obtain ⟨o34, ho34, h⟩ := ob h
      refine awp_cut1 (OutQ (fun (ro34 : (List Int) × Int) => [(2, .d (L3 ro34.1)), (3, vi ro34.2)]) (fun (ro34 : (List Int) × Int) => []) (fun (so34 : (List Int)) => [(1, rf 0), (4, .d (.v (.pointer none))), (6, .d dnil), (7, vi (w64 ((p_c.Edges.length : Int) + 1))), (8, vi c28), (9, .sl 1 1 0 so34.length), (28, vi (w64 ((1 : Int) * 2 ^ min (p_c.Edges.length : Int).toNat 64))), (29, vi c28)]) (fun (so34 : (List Int)) => [cs p_c, .data (so34.flatMap cel3)]) o34) ?_ ?_
      ·clear h
       have h := ho34
       clear ho34
       refine awp_selQ (gw 2 [1, 4, 6, 7, 8, 9, 28, 29, 39, 40] [(1, rf 0), (4, .d (.v (.pointer none))), (6, .d dnil), (7, vi (w64 ((p_c.Edges.length : Int) + 1))), (8, vi c28), (9, .sl 1 1 0 ([] : List Int).length), (28, vi (w64 ((1 : Int) * 2 ^ min (p_c.Edges.length : Int).toNat 64))), (29, vi c28), (39, vl p_c.Edges), (40, vi 0)] [cs p_c, .data (([] : List Int).flatMap cel3)] ?_)
       refine awp_block (awp_loop (n := fuel) ?_)
       refine awpN_ind (fun n (c35 : Int × (List Int)) => F32L4 p_c c28 n c35) o34 (fun (c35 : Int × (List Int)) => [(1, rf 0), (4, .d (.v (.pointer none))), (6, .d dnil), (7, vi (w64 ((p_c.Edges.length : Int) + 1))), (8, vi c28), (9, .sl 1 1 0 c35.2.length), (28, vi (w64 ((1 : Int) * 2 ^ min (p_c.Edges.length : Int).toNat 64))), (29, vi c28), (39, vl p_c.Edges), (40, vi c35.1)]) (fun (c35 : Int × (List Int)) => [cs p_c, .data (c35.2.flatMap cel3)]) (fun _ => rfl) ?_ fuel (0, ([] : List Int)) h
       clear h
       intro n36 c35 h hrn36
       change F32L4 p_c c28 (n36 + 1) c35 = some o34 at h
       rw [F32L4] at h
       refine g0 [1, 4, 6, 7, 8, 9, 28, 29, 39, 40, 41] [] [(1, rf 0), (4, .d (.v (.pointer none))), (6, .d dnil), (7, vi (w64 ((p_c.Edges.length : Int) + 1))), (8, vi c28), (9, .sl 1 1 0 c35.2.length), (28, vi (w64 ((1 : Int) * 2 ^ min (p_c.Edges.length : Int).toNat 64))), (29, vi c28), (39, vl p_c.Edges), (40, vi c35.1), (41, vb (decide (c35.1 < (p_c.Edges.length : Int))))] [cs p_c, .data (c35.2.flatMap cel3)] ?_
       refine awp_seq (awp_cond (b := (decide (c35.1 < (p_c.Edges.length : Int)))) (by kernel_rfl) (fun hb37 => ?_) (fun hb37 => ?_))
       ·rw [if_pos hb37] at h
        refine awp_skip ?_
        show awp ..
        refine awp_seq (awp_block ?_)
        refine g0 [1, 4, 6, 7, 8, 9, 10, 28, 29, 39, 40] [] [(1, rf 0), (4, .d (.v (.pointer none))), (6, .d dnil), (7, vi (w64 ((p_c.Edges.length : Int) + 1))), (8, vi c28), (9, .sl 1 1 0 c35.2.length), (10, vi c35.1), (28, vi (w64 ((1 : Int) * 2 ^ min (p_c.Edges.length : Int).toNat 64))), (29, vi c28), (39, vl p_c.Edges), (40, vi c35.1)] [cs p_c, .data (c35.2.flatMap cel3)] ?_
        obtain ⟨x38, hx38, h⟩ := ob h
        refine hr [1, 4, 6, 7, 8, 9, 10, 28, 29, 39, 40, 47] [] [(1, rf 0), (4, .d (.v (.pointer none))), (6, .d dnil), (7, vi (w64 ((p_c.Edges.length : Int) + 1))), (8, vi c28), (9, .sl 1 1 0 c35.2.length), (10, vi c35.1), (28, vi (w64 ((1 : Int) * 2 ^ min (p_c.Edges.length : Int).toNat 64))), (29, vi c28), (39, vl p_c.Edges), (40, vi c35.1), (47, vb ((Go.bits .and .i64 (c28 / 2 ^ min c35.1.toNat 64) 1) == 1))] [(0 ≤ c35.1)] ((need_of hx38 : 0 ≤ c35.1)) ?_
        refine awp_cond (b := ((Go.bits .and .i64 (c28 / 2 ^ min c35.1.toNat 64) 1) == 1)) (by kernel_rfl) (fun hb39 => ?_) (fun hb39 => ?_)
        ·rw [if_pos hb39] at h
         obtain ⟨x40, hx40, h⟩ := ob h
         refine xr [1, 4, 6, 7, 8, 9, 28, 29, 39, 40] [.no, .no, .no, .list (c35.2 ++ ([c35.1] : List Int)).length ((c35.2 ++ ([c35.1] : List Int)).flatMap cel3)] [(1, rf 0), (4, .d (.v (.pointer none))), (6, .d dnil), (7, vi (w64 ((p_c.Edges.length : Int) + 1))), (8, vi c28), (9, .sl 1 1 0 (c35.2 ++ ([c35.1] : List Int)).length), (28, vi (w64 ((1 : Int) * 2 ^ min (p_c.Edges.length : Int).toNat 64))), (29, vi c28), (39, vl p_c.Edges), (40, vi c35.1)] [cs p_c, .data ((c35.2 ++ ([c35.1] : List Int)).flatMap cel3)] [AppendOk ((c35.2.flatMap cel3).map .d) c35.2.length ([c35.1] : List Int).length (c35.2 ++ ([c35.1] : List Int)).length 1 8 (([c35.1] : List Int).flatMap cel3) ((c35.2 ++ ([c35.1] : List Int)).flatMap cel3)] (appendOk cel3_len (need_of hx40)) ?_
         show awp ..
         refine y0 [1, 4, 6, 7, 8, 9, 28, 29, 39, 40] [] [(1, rf 0), (4, .d (.v (.pointer none))), (6, .d dnil), (7, vi (w64 ((p_c.Edges.length : Int) + 1))), (8, vi c28), (9, .sl 1 1 0 (c35.2 ++ ([c35.1] : List Int)).length), (28, vi (w64 ((1 : Int) * 2 ^ min (p_c.Edges.length : Int).toNat 64))), (29, vi c28), (39, vl p_c.Edges), (40, vi (w64 (c35.1 + 1)))] ?_
         exact gn 2 [1, 4, 6, 7, 8, 9, 28, 29, 39, 40] (hrn36 ((w64 (c35.1 + 1)), (c35.2 ++ ([c35.1] : List Int))) h)
        ·rw [if_neg (ntrue hb39)] at h
         refine awp_skip ?_
         show awp ..
         refine x0 [1, 4, 6, 7, 8, 9, 28, 29, 39, 40] [] [(1, rf 0), (4, .d (.v (.pointer none))), (6, .d dnil), (7, vi (w64 ((p_c.Edges.length : Int) + 1))), (8, vi c28), (9, .sl 1 1 0 c35.2.length), (28, vi (w64 ((1 : Int) * 2 ^ min (p_c.Edges.length : Int).toNat 64))), (29, vi c28), (39, vl p_c.Edges), (40, vi (w64 (c35.1 + 1)))] [cs p_c, .data (c35.2.flatMap cel3)] ?_
         exact gn 2 [1, 4, 6, 7, 8, 9, 28, 29, 39, 40] (hrn36 ((w64 (c35.1 + 1)), c35.2) h)
       ·rw [if_neg (ntrue hb37)] at h
        refine awp_exit ?_
        obtain rfl := Option.some.inj h
        exact gs [0, 1] [1, 4, 6, 7, 8, 9, 28, 29] OutQ.norm
      ·intro e T H hq
       cases o34 with
       | inl ro34 =>
        obtain ⟨rfl, rfl, rfl⟩ := hq
        rw [outK_inl] at h
        obtain rfl := Option.some.inj h
        exact gs [] [2, 3] OutQ.ret
       | inr so34 =>
        obtain ⟨rfl, rfl, rfl⟩ := hq
        rw [outK_inr] at h
        show awp ..
        refine awp_seq ?_
        obtain ⟨x41, hx41, h⟩ := ob h
        refine gr [1, 4, 6, 7, 8, 9, 28, 29, 62] [.no, .no, .no, .no, .no, .no, .no, .call [(L3 so34), dnil] (vi x41)] [(1, rf 0), (4, .d (.v (.pointer none))), (6, .d dnil), (7, vi (w64 ((p_c.Edges.length : Int) + 1))), (8, vi c28), (9, .sl 1 1 0 so34.length), (28, vi (w64 ((1 : Int) * 2 ^ min (p_c.Edges.length : Int).toNat 64))), (29, vi c28), (62, vb (cond ((so34.length : Int) == (w64 ((p_c.Edges.length : Int) + 1))) (decide (x41 ≥ 0)) false))] [cs p_c, .data (so34.flatMap cel3)] [(((so34.length : Int) == (w64 ((p_c.Edges.length : Int) + 1))) = true → ((so34.length : Int) == (w64 ((p_c.Edges.length : Int) + 1))) = true), (((so34.length : Int) == (w64 ((p_c.Edges.length : Int) + 1))) = true → ((so34.length : Int) == (w64 ((p_c.Edges.length : Int) + 1))) = true), (((so34.length : Int) == (w64 ((p_c.Edges.length : Int) + 1))) = true → argsOk [cs p_c, .data (so34.flatMap cel3)] [.sl 1 1 0 so34.length, .d dnil] [(L3 so34), dnil]), (((so34.length : Int) == (w64 ((p_c.Edges.length : Int) + 1))) = true → PCall Try.prog 73 [(L3 so34), dnil] (vi x41)), (((so34.length : Int) == (w64 ((p_c.Edges.length : Int) + 1))) = true → ((so34.length : Int) == (w64 ((p_c.Edges.length : Int) + 1))) = true), (((so34.length : Int) == (w64 ((p_c.Edges.length : Int) + 1))) = true → ((so34.length : Int) == (w64 ((p_c.Edges.length : Int) + 1))) = true)] (And.intro (id) (And.intro (id) (And.intro ((fun hg => (And.intro (lentOk cel3_len rfl) (And.intro (rfl) trivial)))) (And.intro ((fun hg => ct73 (optG_of hx41 hg))) (And.intro (id) (id)))))) ?_
        refine awp_cond (b := (cond ((so34.length : Int) == (w64 ((p_c.Edges.length : Int) + 1))) (decide (x41 ≥ 0)) false)) (by kernel_rfl) (fun hb42 => ?_) (fun hb42 => ?_)
        ·rw [if_pos hb42] at h
         refine awp_exit ?_
         show awp ..
         refine x0 [1, 4, 6, 7, 28, 29] [] [(1, rf 0), (4, .d (.v (.pointer none))), (6, .d dnil), (7, vi (w64 ((p_c.Edges.length : Int) + 1))), (28, vi (w64 ((1 : Int) * 2 ^ min (p_c.Edges.length : Int).toNat 64))), (29, vi (w64 (c28 + 1)))] [cs p_c, .data (so34.flatMap cel3)] ?_
         exact gn 1 [1, 4, 6, 7, 28, 29] (hrn29 (w64 (c28 + 1)) h)
        ·rw [if_neg (ntrue hb42)] at h
         refine awp_skip ?_
         show awp ..
         exact absurd h (by simp)
    ·rw [if_neg (ntrue hb30)] at h
     refine awp_exit ?_
     obtain rfl := Option.some.inj h
     exact gs [0] [6] OutQ.norm
   ·intro e T H hq
    cases o27 with
    | inl ro27 =>
     obtain ⟨rfl, rfl, rfl⟩ := hq
     rw [outK_inl] at h
     obtain rfl := Option.some.inj h
     exact gm
    | inr so27 =>
     obtain ⟨rfl, rfl, rfl⟩ := hq
     rw [outK_inr] at h
     show awp ..
     refine g0 [2, 3] [] [(2, .d dnil), (3, vi 0)] [cs p_c] ?_
     obtain rfl := Option.some.inj h
     refine hw 1 [2, 3] [(2, .d dnil), (3, vi 0)] ?_
     refine awp_laxT 2 _ (L3 ([] : List Int)) _ (by kernel_rfl) (.nil (e := 1)) rfl ?_
     refine gw 1 [2, 3] [(2, .d (L3 ([] : List Int))), (3, vi 0)] [cs p_c] ?_
     exact awp_ret gm
end Go.Proofs.Ytallnifoeahpiaa
