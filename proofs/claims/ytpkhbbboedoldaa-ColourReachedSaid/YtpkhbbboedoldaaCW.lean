/- That functions of the seat compute this. Printed by a program of mine. -/
import Derived.Test.YtpkhbbboedoldaaS
import Derived.Test.YtpkhbbboedoldaaCA
import Derived.Test.YtpkhbbboedoldaaCE
import Derived.Test.YtpkhbbboedoldaaCM
import Derived.Test.YtpkhbbboedoldaaCP
import Derived.Test.YtpkhbbboedoldaaDW
namespace Go.Proofs.Ytpkhbbboedoldaa
open Go Go.Sx
set_option maxRecDepth 100000
set_option linter.unusedVariables false
theorem ct47  {lo : Int} {hi : Int} {res : S_api_Span} (h : F47 lo hi = some res) : PCall Try.prog 47 [(di lo), (di hi)] (.d (.agg [(di res.Lo), (di res.Hi)])) := by
 refine PCall.of_awp tt_ok (N := 8) Try.func47 rfl (by kernel_rfl) rfl (Nat.le_of_ble_eq_true rfl) rfl ?_
 unfold F47 at h
 refine g0 [0, 1, 4] [] [(0, vi lo), (1, vi hi), (4, .ref 0 0)] [.cells [vi 0, vi 0]] ?_
 refine g0 [4] [] [(4, .ref 0 0)] [.cells [vi lo, vi hi]] ?_
 obtain rfl := Option.some.inj h
 refine gw 1 [4] [(4, .ref 0 0)] [.cells [vi lo, vi hi]] ?_
 exact awp_ret gm
theorem ct38  {p_a : Int} {p_b : Int} {res : S_api_ClPair} (h : F38 p_a p_b = some res) : PCall Try.prog 38 [(di p_a), (di p_b)] (.d (.agg [(di res.A), (di res.B)])) := by
 refine PCall.of_awp tt_ok (N := 8) Try.func38 rfl (by kernel_rfl) rfl (Nat.le_of_ble_eq_true rfl) rfl ?_
 unfold F38 at h
 refine g0 [0, 1, 4] [] [(0, vi p_a), (1, vi p_b), (4, .ref 0 0)] [.cells [vi 0, vi 0]] ?_
 refine g0 [4] [] [(4, .ref 0 0)] [.cells [vi p_a, vi p_b]] ?_
 obtain rfl := Option.some.inj h
 refine gw 1 [4] [(4, .ref 0 0)] [.cells [vi p_a, vi p_b]] ?_
 exact awp_ret gm
theorem ct37  {inks : Int} {res : S_api_ClMap} (h : F37 inks = some res) : PCall Try.prog 37 [(di inks)] (.d (ma res)) := by
 refine PCall.of_awp tt_ok (N := 21) Try.func37 rfl (by kernel_rfl) rfl (Nat.le_of_ble_eq_true rfl) rfl ?_
 unfold F37 at h
 refine g0 [0, 2] [] [(0, vi inks), (2, .ref 0 0)] [.cells [.d dnil, vi 0, .d dnil, .d dnil, vi 0, .d dnil]] ?_
 obtain ⟨x1, hx1, h⟩ := ob h
 obtain ⟨x2, hx2, h⟩ := ob h
 obtain ⟨x3, hx3, h⟩ := ob h
 obtain ⟨x4, hx4, h⟩ := ob h
 obtain ⟨x5, hx5, h⟩ := ob h
 obtain ⟨x6, hx6, h⟩ := ob h
 obtain ⟨x7, hx7, h⟩ := ob h
 obtain ⟨x8, hx8, h⟩ := ob h
 obtain ⟨x9, hx9, h⟩ := ob h
 obtain ⟨x10, hx10, h⟩ := ob h
 obtain ⟨x11, hx11, h⟩ := ob h
 obtain ⟨x12, hx12, h⟩ := ob h
 refine gr [2] [.call [(di 100), (di 105)] (.d (.agg [(di x1.Lo), (di x1.Hi)])), .call [(di 200), (di 204)] (.d (.agg [(di x2.Lo), (di x2.Hi)])), .no, .call [(di 90), (di 99)] (.d (.agg [(di x3.Lo), (di x3.Hi)])), .call [(di 98), (di 103)] (.d (.agg [(di x4.Lo), (di x4.Hi)])), .call [(di 104), (di 150)] (.d (.agg [(di x5.Lo), (di x5.Hi)])), .call [(di 190), (di 202)] (.d (.agg [(di x6.Lo), (di x6.Hi)])), .call [(di 210), (di 300)] (.d (.agg [(di x7.Lo), (di x7.Hi)])), .no, .call [(di 0), (di 1)] (.d (.agg [(di x8.A), (di x8.B)])), .call [(di 1), (di 2)] (.d (.agg [(di x9.A), (di x9.B)])), .call [(di 2), (di 3)] (.d (.agg [(di x10.A), (di x10.B)])), .call [(di 3), (di 4)] (.d (.agg [(di x11.A), (di x11.B)])), .no, .no, .call [(di 0), (di 1)] (.d (.agg [(di x12.A), (di x12.B)]))] [(2, .ref 0 0)] [.cells [.d (L60 ([(⟨x1.Lo, x1.Hi⟩ : S_api_Span), (⟨x2.Lo, x2.Hi⟩ : S_api_Span)] : List S_api_Span)), vi 50, .d (L60 ([(⟨x3.Lo, x3.Hi⟩ : S_api_Span), (⟨x4.Lo, x4.Hi⟩ : S_api_Span), (⟨x5.Lo, x5.Hi⟩ : S_api_Span), (⟨x6.Lo, x6.Hi⟩ : S_api_Span), (⟨x7.Lo, x7.Hi⟩ : S_api_Span)] : List S_api_Span)), .d (L51 ([(⟨x8.A, x8.B⟩ : S_api_ClPair), (⟨x9.A, x9.B⟩ : S_api_ClPair), (⟨x10.A, x10.B⟩ : S_api_ClPair), (⟨x11.A, x11.B⟩ : S_api_ClPair)] : List S_api_ClPair)), vi inks, .d (L51 ([(⟨x12.A, x12.B⟩ : S_api_ClPair)] : List S_api_ClPair))]] [PCall Try.prog 47 [(di 100), (di 105)] (.d (.agg [(di x1.Lo), (di x1.Hi)])), PCall Try.prog 47 [(di 200), (di 204)] (.d (.agg [(di x2.Lo), (di x2.Hi)])), PCall Try.prog 47 [(di 90), (di 99)] (.d (.agg [(di x3.Lo), (di x3.Hi)])), PCall Try.prog 47 [(di 98), (di 103)] (.d (.agg [(di x4.Lo), (di x4.Hi)])), PCall Try.prog 47 [(di 104), (di 150)] (.d (.agg [(di x5.Lo), (di x5.Hi)])), PCall Try.prog 47 [(di 190), (di 202)] (.d (.agg [(di x6.Lo), (di x6.Hi)])), PCall Try.prog 47 [(di 210), (di 300)] (.d (.agg [(di x7.Lo), (di x7.Hi)])), PCall Try.prog 38 [(di 0), (di 1)] (.d (.agg [(di x8.A), (di x8.B)])), PCall Try.prog 38 [(di 1), (di 2)] (.d (.agg [(di x9.A), (di x9.B)])), PCall Try.prog 38 [(di 2), (di 3)] (.d (.agg [(di x10.A), (di x10.B)])), PCall Try.prog 38 [(di 3), (di 4)] (.d (.agg [(di x11.A), (di x11.B)])), PCall Try.prog 38 [(di 0), (di 1)] (.d (.agg [(di x12.A), (di x12.B)]))] (And.intro (ct47 hx1) (And.intro (ct47 hx2) (And.intro (ct47 hx3) (And.intro (ct47 hx4) (And.intro (ct47 hx5) (And.intro (ct47 hx6) (And.intro (ct47 hx7) (And.intro (ct38 hx8) (And.intro (ct38 hx9) (And.intro (ct38 hx10) (And.intro (ct38 hx11) (ct38 hx12)))))))))))) ?_
 obtain rfl := Option.some.inj h
 refine gw 1 [2] [(2, .ref 0 0)] [.cells [.d (L60 ([(⟨x1.Lo, x1.Hi⟩ : S_api_Span), (⟨x2.Lo, x2.Hi⟩ : S_api_Span)] : List S_api_Span)), vi 50, .d (L60 ([(⟨x3.Lo, x3.Hi⟩ : S_api_Span), (⟨x4.Lo, x4.Hi⟩ : S_api_Span), (⟨x5.Lo, x5.Hi⟩ : S_api_Span), (⟨x6.Lo, x6.Hi⟩ : S_api_Span), (⟨x7.Lo, x7.Hi⟩ : S_api_Span)] : List S_api_Span)), .d (L51 ([(⟨x8.A, x8.B⟩ : S_api_ClPair), (⟨x9.A, x9.B⟩ : S_api_ClPair), (⟨x10.A, x10.B⟩ : S_api_ClPair), (⟨x11.A, x11.B⟩ : S_api_ClPair)] : List S_api_ClPair)), vi inks, .d (L51 ([(⟨x12.A, x12.B⟩ : S_api_ClPair)] : List S_api_ClPair))]] ?_
 exact awp_ret gm
theorem ct75  {p_s : S_api_Span} {border : Int} {res : Bool} (h : F75 p_s border = some res) : PCall Try.prog 75 [(.agg [(di p_s.Lo), (di p_s.Hi)]), (di border)] (vb res) := by
 refine PCall.of_awp tt_ok (N := 15) Try.func75 rfl (by kernel_rfl) rfl (Nat.le_of_ble_eq_true rfl) rfl ?_
 unfold F75 at h
 refine g0 [1, 2] [] [(1, vi border), (2, .ref 0 0)] [.cells [vi p_s.Lo, vi p_s.Hi]] ?_
 refine gr [4] [] [(4, vb (cond (decide (p_s.Lo < border)) (decide (border ≤ p_s.Hi)) false))] [.cells [vi p_s.Lo, vi p_s.Hi]] [((decide (p_s.Lo < border)) = true → (decide (p_s.Lo < border)) = true), ((decide (p_s.Lo < border)) = true → (decide (p_s.Lo < border)) = true), ((decide (p_s.Lo < border)) = true → (decide (p_s.Lo < border)) = true), ((decide (p_s.Lo < border)) = true → (decide (p_s.Lo < border)) = true)] (And.intro (id) (And.intro (id) (And.intro (id) (id)))) ?_
 obtain rfl := Option.some.inj h
 refine gw 1 [4] [(4, vb (cond (decide (p_s.Lo < border)) (decide (border ≤ p_s.Hi)) false))] [.cells [vi p_s.Lo, vi p_s.Hi]] ?_
 exact awp_ret gm
theorem ct76B {fuel : Nat} {rec45 : S_colour_state → (List S_api_Span) → Int → (List S_api_Span) → (List S_api_ClPair) → Int → (List S_api_ClPair) → (List (S_colour_state × S_colour_rest)) → Option (S_colour_rest × (List (S_colour_state × S_colour_rest)))} (hrec45 : ∀ (p_s : S_colour_state) (b0x0 : List S_api_Span) (b0x1 : Int) (b0x2 : List S_api_Span) (b0x3 : List S_api_ClPair) (b0x4 : Int) (b0x5 : List S_api_ClPair) (m2 : List (S_colour_state × S_colour_rest)) (res : S_colour_rest × (List (S_colour_state × S_colour_rest))), rec45 p_s b0x0 b0x1 b0x2 b0x3 b0x4 b0x5 m2 = some res → HCall Try.prog 76 [.d (.agg [(di p_s.at_), (di p_s.border)]), .ref 0 0, .ref 1 0, .ref 3 0, .ref 4 0] [.cells [.d (L60 b0x0), vi b0x1, .d (L60 b0x2), .d (L51 b0x3), vi b0x4, .d (L51 b0x5)], .cells [.mp 2], .map (mpo112x114 m2), .cells [.fn (.func 76) [] [.ref 0 0, .ref 1 0, .ref 3 0, .ref 4 0]], .cells [.fn (.func 75) [] []]] (.d (.agg [(di res.1.many), (di res.1.next)])) [.cells [.d (L60 b0x0), vi b0x1, .d (L60 b0x2), .d (L51 b0x3), vi b0x4, .d (L51 b0x5)], .cells [.mp 2], .map (mpo112x114 res.2), .cells [.fn (.func 76) [] [.ref 0 0, .ref 1 0, .ref 3 0, .ref 4 0]], .cells [.fn (.func 75) [] []]]) {p_s : S_colour_state} {b0x0 : List S_api_Span} {b0x1 : Int} {b0x2 : List S_api_Span} {b0x3 : List S_api_ClPair} {b0x4 : Int} {b0x5 : List S_api_ClPair} {m2 : List (S_colour_state × S_colour_rest)} {res : S_colour_rest × (List (S_colour_state × S_colour_rest))} (h : B76 fuel rec45 p_s b0x0 b0x1 b0x2 b0x3 b0x4 b0x5 m2 = some res) : HCall Try.prog 76 [.d (.agg [(di p_s.at_), (di p_s.border)]), .ref 0 0, .ref 1 0, .ref 3 0, .ref 4 0] [.cells [.d (L60 b0x0), vi b0x1, .d (L60 b0x2), .d (L51 b0x3), vi b0x4, .d (L51 b0x5)], .cells [.mp 2], .map (mpo112x114 m2), .cells [.fn (.func 76) [] [.ref 0 0, .ref 1 0, .ref 3 0, .ref 4 0]], .cells [.fn (.func 75) [] []]] (.d (.agg [(di res.1.many), (di res.1.next)])) [.cells [.d (L60 b0x0), vi b0x1, .d (L60 b0x2), .d (L51 b0x3), vi b0x4, .d (L51 b0x5)], .cells [.mp 2], .map (mpo112x114 res.2), .cells [.fn (.func 76) [] [.ref 0 0, .ref 1 0, .ref 3 0, .ref 4 0]], .cells [.fn (.func 75) [] []]] := by
 refine HCall.of_awpS tt_ok (N := 122) (fl := 5) Try.func76 rfl (by kernel_rfl) rfl rfl (Nat.le_of_ble_eq_true rfl) ?_
 unfold B76 at h
 refine g0 [1, 2, 3, 4, 5, 6] [] [(1, .ref 0 0), (2, .ref 1 0), (3, .ref 3 0), (4, .ref 4 0), (5, .ref 5 0), (6, .ref 6 0)] [.cells [.d (L60 b0x0), vi b0x1, .d (L60 b0x2), .d (L51 b0x3), vi b0x4, .d (L51 b0x5)], .cells [.mp 2], .map (mpo112x114 m2), .cells [.fn (.func 76) [] [.ref 0 0, .ref 1 0, .ref 3 0, .ref 4 0]], .cells [.fn (.func 75) [] []], .cells [vi p_s.at_, vi p_s.border], .cells [vi 0, vi 0]] ?_
 refine awp_seq (g0 [1, 2, 3, 4, 5, 6, 21] [] [(1, .ref 0 0), (2, .ref 1 0), (3, .ref 3 0), (4, .ref 4 0), (5, .ref 5 0), (6, .ref 6 0), (21, vb (p_s.at_ == (w64 ((b0x0.length : Int) - 1))))] [.cells [.d (L60 b0x0), vi b0x1, .d (L60 b0x2), .d (L51 b0x3), vi b0x4, .d (L51 b0x5)], .cells [.mp 2], .map (mpo112x114 m2), .cells [.fn (.func 76) [] [.ref 0 0, .ref 1 0, .ref 3 0, .ref 4 0]], .cells [.fn (.func 75) [] []], .cells [vi p_s.at_, vi p_s.border], .cells [vi 0, vi 0]] ?_)
 refine awp_cond (b := (p_s.at_ == (w64 ((b0x0.length : Int) - 1)))) (by kernel_rfl) (fun hb1 => ?_) (fun hb1 => ?_)
 ·rw [if_pos hb1] at h
  refine g0 [6] [] [(6, .ref 6 0)] [.cells [.d (L60 b0x0), vi b0x1, .d (L60 b0x2), .d (L51 b0x3), vi b0x4, .d (L51 b0x5)], .cells [.mp 2], .map (mpo112x114 m2), .cells [.fn (.func 76) [] [.ref 0 0, .ref 1 0, .ref 3 0, .ref 4 0]], .cells [.fn (.func 75) [] []], .cells [vi p_s.at_, vi p_s.border], .cells [vi 0, vi 0]] ?_
  obtain rfl := Option.some.inj h
  refine gw 7 [6] [(6, .ref 6 0)] [.cells [.d (L60 b0x0), vi b0x1, .d (L60 b0x2), .d (L51 b0x3), vi b0x4, .d (L51 b0x5)], .cells [.mp 2], .map (mpo112x114 m2), .cells [.fn (.func 76) [] [.ref 0 0, .ref 1 0, .ref 3 0, .ref 4 0]], .cells [.fn (.func 75) [] []], .cells [vi p_s.at_, vi p_s.border], .cells [vi 0, vi 0]] ?_
  exact awp_ret (main_retS [0, 1, 2, 3, 4] (.d (.agg [(di 0), (di 0)])) (by kernel_rfl) (by kernel_rfl) (by kernel_rfl) (by kernel_rfl))
 ·rw [if_neg (ntrue hb1)] at h
  refine awp_skip ?_
  show awp ..
  refine gr [1, 2, 3, 4, 5, 6, 7, 8] [.no, .no, .look (.agg [(di ((mget eqk112 p_s m2).getD (⟨0, 0⟩ : S_colour_rest)).many), (di ((mget eqk112 p_s m2).getD (⟨0, 0⟩ : S_colour_rest)).next)]) (mget eqk112 p_s m2).isSome] [(1, .ref 0 0), (2, .ref 1 0), (3, .ref 3 0), (4, .ref 4 0), (5, .ref 5 0), (6, .ref 6 0), (7, .ref 7 0), (8, vb (mget eqk112 p_s m2).isSome)] [.cells [.d (L60 b0x0), vi b0x1, .d (L60 b0x2), .d (L51 b0x3), vi b0x4, .d (L51 b0x5)], .cells [.mp 2], .map (mpo112x114 m2), .cells [.fn (.func 76) [] [.ref 0 0, .ref 1 0, .ref 3 0, .ref 4 0]], .cells [.fn (.func 75) [] []], .cells [vi p_s.at_, vi p_s.border], .cells [vi 0, vi 0], .cells [vi ((mget eqk112 p_s m2).getD (⟨0, 0⟩ : S_colour_rest)).many, vi ((mget eqk112 p_s m2).getD (⟨0, 0⟩ : S_colour_rest)).next]] [LookOk (mpo112x114 m2) (.agg [(di p_s.at_), (di p_s.border)]) (.agg [(di 0), (di 0)]) (.agg [(di ((mget eqk112 p_s m2).getD (⟨0, 0⟩ : S_colour_rest)).many), (di ((mget eqk112 p_s m2).getD (⟨0, 0⟩ : S_colour_rest)).next)]) (mget eqk112 p_s m2).isSome] (lookOk (fk := dat112) (fv := dat114) eqk112_ok rfl p_s m2) ?_
  refine awp_seq (g0 [1, 2, 3, 4, 5, 6, 7, 29] [] [(1, .ref 0 0), (2, .ref 1 0), (3, .ref 3 0), (4, .ref 4 0), (5, .ref 5 0), (6, .ref 6 0), (7, .ref 7 0), (29, vb (mget eqk112 p_s m2).isSome)] [.cells [.d (L60 b0x0), vi b0x1, .d (L60 b0x2), .d (L51 b0x3), vi b0x4, .d (L51 b0x5)], .cells [.mp 2], .map (mpo112x114 m2), .cells [.fn (.func 76) [] [.ref 0 0, .ref 1 0, .ref 3 0, .ref 4 0]], .cells [.fn (.func 75) [] []], .cells [vi p_s.at_, vi p_s.border], .cells [vi 0, vi 0], .cells [vi ((mget eqk112 p_s m2).getD (⟨0, 0⟩ : S_colour_rest)).many, vi ((mget eqk112 p_s m2).getD (⟨0, 0⟩ : S_colour_rest)).next]] ?_)
  refine awp_cond (b := (mget eqk112 p_s m2).isSome) (by kernel_rfl) (fun hb2 => ?_) (fun hb2 => ?_)
  ·rw [if_pos hb2] at h
   refine g0 [6] [] [(6, .ref 6 0)] [.cells [.d (L60 b0x0), vi b0x1, .d (L60 b0x2), .d (L51 b0x3), vi b0x4, .d (L51 b0x5)], .cells [.mp 2], .map (mpo112x114 m2), .cells [.fn (.func 76) [] [.ref 0 0, .ref 1 0, .ref 3 0, .ref 4 0]], .cells [.fn (.func 75) [] []], .cells [vi p_s.at_, vi p_s.border], .cells [vi ((mget eqk112 p_s m2).getD (⟨0, 0⟩ : S_colour_rest)).many, vi ((mget eqk112 p_s m2).getD (⟨0, 0⟩ : S_colour_rest)).next], .cells [vi ((mget eqk112 p_s m2).getD (⟨0, 0⟩ : S_colour_rest)).many, vi ((mget eqk112 p_s m2).getD (⟨0, 0⟩ : S_colour_rest)).next]] ?_
   obtain rfl := Option.some.inj h
   refine gw 8 [6] [(6, .ref 6 0)] [.cells [.d (L60 b0x0), vi b0x1, .d (L60 b0x2), .d (L51 b0x3), vi b0x4, .d (L51 b0x5)], .cells [.mp 2], .map (mpo112x114 m2), .cells [.fn (.func 76) [] [.ref 0 0, .ref 1 0, .ref 3 0, .ref 4 0]], .cells [.fn (.func 75) [] []], .cells [vi p_s.at_, vi p_s.border], .cells [vi ((mget eqk112 p_s m2).getD (⟨0, 0⟩ : S_colour_rest)).many, vi ((mget eqk112 p_s m2).getD (⟨0, 0⟩ : S_colour_rest)).next], .cells [vi ((mget eqk112 p_s m2).getD (⟨0, 0⟩ : S_colour_rest)).many, vi ((mget eqk112 p_s m2).getD (⟨0, 0⟩ : S_colour_rest)).next]] ?_
   exact awp_ret (main_retS [0, 1, 2, 3, 4] (.d (.agg [(di ((mget eqk112 p_s m2).getD (⟨0, 0⟩ : S_colour_rest)).many), (di ((mget eqk112 p_s m2).getD (⟨0, 0⟩ : S_colour_rest)).next)])) (by kernel_rfl) (by kernel_rfl) (by kernel_rfl) (by kernel_rfl))
  ·rw [if_neg (ntrue hb2)] at h
   refine awp_skip ?_
   show awp ..
   refine g0 [1, 2, 3, 4, 5, 6, 7] [] [(1, .ref 0 0), (2, .ref 1 0), (3, .ref 3 0), (4, .ref 4 0), (5, .ref 5 0), (6, .ref 6 0), (7, .ref 7 0)] [.cells [.d (L60 b0x0), vi b0x1, .d (L60 b0x2), .d (L51 b0x3), vi b0x4, .d (L51 b0x5)], .cells [.mp 2], .map (mpo112x114 m2), .cells [.fn (.func 76) [] [.ref 0 0, .ref 1 0, .ref 3 0, .ref 4 0]], .cells [.fn (.func 75) [] []], .cells [vi p_s.at_, vi p_s.border], .cells [vi 0, vi 0], .cells [vi ((mget eqk112 p_s m2).getD (⟨0, 0⟩ : S_colour_rest)).many, vi (-1)]] ?_
   obtain ⟨x3, hx3, h⟩ := ob h
   refine gr [1, 2, 3, 4, 5, 6, 7, 9] [.no, .no, .no, .no, .no, .cells (cel60 x3)] [(1, .ref 0 0), (2, .ref 1 0), (3, .ref 3 0), (4, .ref 4 0), (5, .ref 5 0), (6, .ref 6 0), (7, .ref 7 0), (9, .ref 8 0)] [.cells [.d (L60 b0x0), vi b0x1, .d (L60 b0x2), .d (L51 b0x3), vi b0x4, .d (L51 b0x5)], .cells [.mp 2], .map (mpo112x114 m2), .cells [.fn (.func 76) [] [.ref 0 0, .ref 1 0, .ref 3 0, .ref 4 0]], .cells [.fn (.func 75) [] []], .cells [vi p_s.at_, vi p_s.border], .cells [vi 0, vi 0], .cells [vi ((mget eqk112 p_s m2).getD (⟨0, 0⟩ : S_colour_rest)).many, vi (-1)], .cells [vi x3.Lo, vi x3.Hi]] [IX60 b0x0 (w64 (p_s.at_ + 1)) x3] (idxOk cel60_len hx3) ?_
   refine awp_seq (g0 [1, 2, 3, 4, 5, 6, 7, 9, 44, 45] [] [(1, .ref 0 0), (2, .ref 1 0), (3, .ref 3 0), (4, .ref 4 0), (5, .ref 5 0), (6, .ref 6 0), (7, .ref 7 0), (9, .ref 8 0), (44, vi (w64 ((w64 (x3.Hi - x3.Lo)) + 1))), (45, vi 0)] [.cells [.d (L60 b0x0), vi b0x1, .d (L60 b0x2), .d (L51 b0x3), vi b0x4, .d (L51 b0x5)], .cells [.mp 2], .map (mpo112x114 m2), .cells [.fn (.func 76) [] [.ref 0 0, .ref 1 0, .ref 3 0, .ref 4 0]], .cells [.fn (.func 75) [] []], .cells [vi p_s.at_, vi p_s.border], .cells [vi 0, vi 0], .cells [vi ((mget eqk112 p_s m2).getD (⟨0, 0⟩ : S_colour_rest)).many, vi (-1)], .cells [vi x3.Lo, vi x3.Hi]] ?_)
   obtain ⟨o4, ho4, h⟩ := ob h
   refine awp_cut1 (OutQ (fun (ro4 : S_colour_rest × (List (S_colour_state × S_colour_rest))) => [(6, .ref 5 0)]) (fun (ro4 : S_colour_rest × (List (S_colour_state × S_colour_rest))) => [.cells [.d (L60 b0x0), vi b0x1, .d (L60 b0x2), .d (L51 b0x3), vi b0x4, .d (L51 b0x5)], .cells [.mp 2], .map (mpo112x114 ro4.2), .cells [.fn (.func 76) [] [.ref 0 0, .ref 1 0, .ref 3 0, .ref 4 0]], .cells [.fn (.func 75) [] []], .cells [vi ro4.1.many, vi ro4.1.next]]) (fun (so4 : (List (S_colour_state × S_colour_rest)) × Int × Int) => [(2, .ref 1 0), (5, .ref 5 0), (6, .ref 6 0), (7, .ref 7 0)]) (fun (so4 : (List (S_colour_state × S_colour_rest)) × Int × Int) => [.cells [.d (L60 b0x0), vi b0x1, .d (L60 b0x2), .d (L51 b0x3), vi b0x4, .d (L51 b0x5)], .cells [.mp 2], .map (mpo112x114 so4.1), .cells [.fn (.func 76) [] [.ref 0 0, .ref 1 0, .ref 3 0, .ref 4 0]], .cells [.fn (.func 75) [] []], .cells [vi p_s.at_, vi p_s.border], .cells [vi 0, vi 0], .cells [vi so4.2.1, vi so4.2.2], .cells [vi x3.Lo, vi x3.Hi]]) o4) ?_ ?_
   ·clear h
    have h := ho4
    clear ho4
    refine awp_selQ (gw 9 [1, 2, 3, 4, 5, 6, 7, 9, 44, 45] [(1, .ref 0 0), (2, .ref 1 0), (3, .ref 3 0), (4, .ref 4 0), (5, .ref 5 0), (6, .ref 6 0), (7, .ref 7 0), (9, .ref 8 0), (44, vi (w64 ((w64 (x3.Hi - x3.Lo)) + 1))), (45, vi 0)] [.cells [.d (L60 b0x0), vi b0x1, .d (L60 b0x2), .d (L51 b0x3), vi b0x4, .d (L51 b0x5)], .cells [.mp 2], .map (mpo112x114 m2), .cells [.fn (.func 76) [] [.ref 0 0, .ref 1 0, .ref 3 0, .ref 4 0]], .cells [.fn (.func 75) [] []], .cells [vi p_s.at_, vi p_s.border], .cells [vi 0, vi 0], .cells [vi ((mget eqk112 p_s m2).getD (⟨0, 0⟩ : S_colour_rest)).many, vi (-1)], .cells [vi x3.Lo, vi x3.Hi]] ?_)
    refine awp_block (awp_loop (n := fuel) ?_)
    refine awpN_ind (fun n (c5 : Int × (List (S_colour_state × S_colour_rest)) × Int × Int) => F76L1 fuel rec45 p_s b0x0 b0x1 b0x2 b0x3 b0x4 b0x5 x3 n c5) o4 (fun (c5 : Int × (List (S_colour_state × S_colour_rest)) × Int × Int) => [(1, .ref 0 0), (2, .ref 1 0), (3, .ref 3 0), (4, .ref 4 0), (5, .ref 5 0), (6, .ref 6 0), (7, .ref 7 0), (9, .ref 8 0), (44, vi (w64 ((w64 (x3.Hi - x3.Lo)) + 1))), (45, vi c5.1)]) (fun (c5 : Int × (List (S_colour_state × S_colour_rest)) × Int × Int) => [.cells [.d (L60 b0x0), vi b0x1, .d (L60 b0x2), .d (L51 b0x3), vi b0x4, .d (L51 b0x5)], .cells [.mp 2], .map (mpo112x114 c5.2.1), .cells [.fn (.func 76) [] [.ref 0 0, .ref 1 0, .ref 3 0, .ref 4 0]], .cells [.fn (.func 75) [] []], .cells [vi p_s.at_, vi p_s.border], .cells [vi 0, vi 0], .cells [vi c5.2.2.1, vi c5.2.2.2], .cells [vi x3.Lo, vi x3.Hi]]) (fun _ => rfl) ?_ fuel (0, m2, ((mget eqk112 p_s m2).getD (⟨0, 0⟩ : S_colour_rest)).many, (-1)) h
    clear h
    intro n6 c5 h hrn6
    change F76L1 fuel rec45 p_s b0x0 b0x1 b0x2 b0x3 b0x4 b0x5 x3 (n6 + 1) c5 = some o4 at h
    rw [F76L1] at h
    refine g0 [1, 2, 3, 4, 5, 6, 7, 9, 44, 45, 46] [] [(1, .ref 0 0), (2, .ref 1 0), (3, .ref 3 0), (4, .ref 4 0), (5, .ref 5 0), (6, .ref 6 0), (7, .ref 7 0), (9, .ref 8 0), (44, vi (w64 ((w64 (x3.Hi - x3.Lo)) + 1))), (45, vi c5.1), (46, vb (decide (c5.1 < (w64 ((w64 (x3.Hi - x3.Lo)) + 1)))))] [.cells [.d (L60 b0x0), vi b0x1, .d (L60 b0x2), .d (L51 b0x3), vi b0x4, .d (L51 b0x5)], .cells [.mp 2], .map (mpo112x114 c5.2.1), .cells [.fn (.func 76) [] [.ref 0 0, .ref 1 0, .ref 3 0, .ref 4 0]], .cells [.fn (.func 75) [] []], .cells [vi p_s.at_, vi p_s.border], .cells [vi 0, vi 0], .cells [vi c5.2.2.1, vi c5.2.2.2], .cells [vi x3.Lo, vi x3.Hi]] ?_
    refine awp_seq (awp_cond (b := (decide (c5.1 < (w64 ((w64 (x3.Hi - x3.Lo)) + 1))))) (by kernel_rfl) (fun hb7 => ?_) (fun hb7 => ?_))
    ·rw [if_pos hb7] at h
     refine awp_skip ?_
     show awp ..
     refine awp_seq (awp_block ?_)
     refine g0 [1, 2, 3, 4, 5, 6, 7, 9, 10, 44, 45] [] [(1, .ref 0 0), (2, .ref 1 0), (3, .ref 3 0), (4, .ref 4 0), (5, .ref 5 0), (6, .ref 6 0), (7, .ref 7 0), (9, .ref 8 0), (10, vi c5.1), (44, vi (w64 ((w64 (x3.Hi - x3.Lo)) + 1))), (45, vi c5.1)] [.cells [.d (L60 b0x0), vi b0x1, .d (L60 b0x2), .d (L51 b0x3), vi b0x4, .d (L51 b0x5)], .cells [.mp 2], .map (mpo112x114 c5.2.1), .cells [.fn (.func 76) [] [.ref 0 0, .ref 1 0, .ref 3 0, .ref 4 0]], .cells [.fn (.func 75) [] []], .cells [vi p_s.at_, vi p_s.border], .cells [vi 0, vi 0], .cells [vi c5.2.2.1, vi c5.2.2.2], .cells [vi x3.Lo, vi x3.Hi]] ?_
     refine g0 [1, 2, 3, 4, 5, 6, 7, 9, 11, 44, 45] [] [(1, .ref 0 0), (2, .ref 1 0), (3, .ref 3 0), (4, .ref 4 0), (5, .ref 5 0), (6, .ref 6 0), (7, .ref 7 0), (9, .ref 8 0), (11, vi (w64 (x3.Lo + c5.1))), (44, vi (w64 ((w64 (x3.Hi - x3.Lo)) + 1))), (45, vi c5.1)] [.cells [.d (L60 b0x0), vi b0x1, .d (L60 b0x2), .d (L51 b0x3), vi b0x4, .d (L51 b0x5)], .cells [.mp 2], .map (mpo112x114 c5.2.1), .cells [.fn (.func 76) [] [.ref 0 0, .ref 1 0, .ref 3 0, .ref 4 0]], .cells [.fn (.func 75) [] []], .cells [vi p_s.at_, vi p_s.border], .cells [vi 0, vi 0], .cells [vi c5.2.2.1, vi c5.2.2.2], .cells [vi x3.Lo, vi x3.Hi]] ?_
     refine awp_seq (gr [1, 2, 3, 4, 5, 6, 7, 9, 11, 44, 45, 63] [] [(1, .ref 0 0), (2, .ref 1 0), (3, .ref 3 0), (4, .ref 4 0), (5, .ref 5 0), (6, .ref 6 0), (7, .ref 7 0), (9, .ref 8 0), (11, vi (w64 (x3.Lo + c5.1))), (44, vi (w64 ((w64 (x3.Hi - x3.Lo)) + 1))), (45, vi c5.1), (63, vb (cond (decide (p_s.at_ ≥ 0)) (decide ((w64 (x3.Lo + c5.1)) < (w64 (p_s.border + b0x1)))) false))] [.cells [.d (L60 b0x0), vi b0x1, .d (L60 b0x2), .d (L51 b0x3), vi b0x4, .d (L51 b0x5)], .cells [.mp 2], .map (mpo112x114 c5.2.1), .cells [.fn (.func 76) [] [.ref 0 0, .ref 1 0, .ref 3 0, .ref 4 0]], .cells [.fn (.func 75) [] []], .cells [vi p_s.at_, vi p_s.border], .cells [vi 0, vi 0], .cells [vi c5.2.2.1, vi c5.2.2.2], .cells [vi x3.Lo, vi x3.Hi]] [((decide (p_s.at_ ≥ 0)) = true → (decide (p_s.at_ ≥ 0)) = true), ((decide (p_s.at_ ≥ 0)) = true → (decide (p_s.at_ ≥ 0)) = true), ((decide (p_s.at_ ≥ 0)) = true → (decide (p_s.at_ ≥ 0)) = true), ((decide (p_s.at_ ≥ 0)) = true → (decide (p_s.at_ ≥ 0)) = true), ((decide (p_s.at_ ≥ 0)) = true → (decide (p_s.at_ ≥ 0)) = true), ((decide (p_s.at_ ≥ 0)) = true → (decide (p_s.at_ ≥ 0)) = true), ((decide (p_s.at_ ≥ 0)) = true → (decide (p_s.at_ ≥ 0)) = true)] (And.intro (id) (And.intro (id) (And.intro (id) (And.intro (id) (And.intro (id) (And.intro (id) (id))))))) ?_)
     refine awp_cond (b := (cond (decide (p_s.at_ ≥ 0)) (decide ((w64 (x3.Lo + c5.1)) < (w64 (p_s.border + b0x1)))) false)) (by kernel_rfl) (fun hb8 => ?_) (fun hb8 => ?_)
     ·rw [if_pos hb8] at h
      refine awp_exit ?_
      show awp ..
      refine x0 [1, 2, 3, 4, 5, 6, 7, 9, 44, 45] [] [(1, .ref 0 0), (2, .ref 1 0), (3, .ref 3 0), (4, .ref 4 0), (5, .ref 5 0), (6, .ref 6 0), (7, .ref 7 0), (9, .ref 8 0), (44, vi (w64 ((w64 (x3.Hi - x3.Lo)) + 1))), (45, vi (w64 (c5.1 + 1)))] [.cells [.d (L60 b0x0), vi b0x1, .d (L60 b0x2), .d (L51 b0x3), vi b0x4, .d (L51 b0x5)], .cells [.mp 2], .map (mpo112x114 c5.2.1), .cells [.fn (.func 76) [] [.ref 0 0, .ref 1 0, .ref 3 0, .ref 4 0]], .cells [.fn (.func 75) [] []], .cells [vi p_s.at_, vi p_s.border], .cells [vi 0, vi 0], .cells [vi c5.2.2.1, vi c5.2.2.2], .cells [vi x3.Lo, vi x3.Hi]] ?_
      exact gn 9 [1, 2, 3, 4, 5, 6, 7, 9, 44, 45] (hrn6 ((w64 (c5.1 + 1)), c5.2.1, c5.2.2.1, c5.2.2.2) h)
     ·rw [if_neg (ntrue hb8)] at h
      refine awp_skip ?_
      show awp ..
      obtain ⟨x9, hx9, h⟩ := ob h
      refine gr [1, 2, 3, 4, 5, 6, 7, 9, 11, 12, 44, 45] [.no, .no, .no, .no, .no, .no, .hcall [(0, false), (1, false), (2, false), (3, false), (4, false)] (.d (.agg [(di x9.1.many), (di x9.1.next)])) [.cells [.d (L60 b0x0), vi b0x1, .d (L60 b0x2), .d (L51 b0x3), vi b0x4, .d (L51 b0x5)], .cells [.mp 2], .map (mpo112x114 x9.2), .cells [.fn (.func 76) [] [.ref 0 0, .ref 1 0, .ref 3 0, .ref 4 0]], .cells [.fn (.func 75) [] []]]] [(1, .ref 0 0), (2, .ref 1 0), (3, .ref 3 0), (4, .ref 4 0), (5, .ref 5 0), (6, .ref 6 0), (7, .ref 7 0), (9, .ref 8 0), (11, vi (w64 (x3.Lo + c5.1))), (12, .ref 9 0), (44, vi (w64 ((w64 (x3.Hi - x3.Lo)) + 1))), (45, vi c5.1)] [.cells [.d (L60 b0x0), vi b0x1, .d (L60 b0x2), .d (L51 b0x3), vi b0x4, .d (L51 b0x5)], .cells [.mp 2], .map (mpo112x114 x9.2), .cells [.fn (.func 76) [] [.ref 0 0, .ref 1 0, .ref 3 0, .ref 4 0]], .cells [.fn (.func 75) [] []], .cells [vi p_s.at_, vi p_s.border], .cells [vi 0, vi 0], .cells [vi c5.2.2.1, vi c5.2.2.2], .cells [vi x3.Lo, vi x3.Hi], .cells [vi x9.1.many, vi x9.1.next]] [HCall Try.prog 76 [.d (.agg [(di (w64 (p_s.at_ + 1))), (di (w64 (x3.Lo + c5.1)))]), .ref 0 0, .ref 1 0, .ref 3 0, .ref 4 0] [.cells [.d (L60 b0x0), vi b0x1, .d (L60 b0x2), .d (L51 b0x3), vi b0x4, .d (L51 b0x5)], .cells [.mp 2], .map (mpo112x114 c5.2.1), .cells [.fn (.func 76) [] [.ref 0 0, .ref 1 0, .ref 3 0, .ref 4 0]], .cells [.fn (.func 75) [] []]] (.d (.agg [(di x9.1.many), (di x9.1.next)])) [.cells [.d (L60 b0x0), vi b0x1, .d (L60 b0x2), .d (L51 b0x3), vi b0x4, .d (L51 b0x5)], .cells [.mp 2], .map (mpo112x114 x9.2), .cells [.fn (.func 76) [] [.ref 0 0, .ref 1 0, .ref 3 0, .ref 4 0]], .cells [.fn (.func 75) [] []]]] (hrec45 _ _ _ _ _ _ _ _ _ hx9) ?_
      refine awp_seq (g0 [1, 2, 3, 4, 5, 6, 7, 9, 11, 12, 44, 45, 73] [] [(1, .ref 0 0), (2, .ref 1 0), (3, .ref 3 0), (4, .ref 4 0), (5, .ref 5 0), (6, .ref 6 0), (7, .ref 7 0), (9, .ref 8 0), (11, vi (w64 (x3.Lo + c5.1))), (12, .ref 9 0), (44, vi (w64 ((w64 (x3.Hi - x3.Lo)) + 1))), (45, vi c5.1), (73, vb (decide (x9.1.next < 0)))] [.cells [.d (L60 b0x0), vi b0x1, .d (L60 b0x2), .d (L51 b0x3), vi b0x4, .d (L51 b0x5)], .cells [.mp 2], .map (mpo112x114 x9.2), .cells [.fn (.func 76) [] [.ref 0 0, .ref 1 0, .ref 3 0, .ref 4 0]], .cells [.fn (.func 75) [] []], .cells [vi p_s.at_, vi p_s.border], .cells [vi 0, vi 0], .cells [vi c5.2.2.1, vi c5.2.2.2], .cells [vi x3.Lo, vi x3.Hi], .cells [vi x9.1.many, vi x9.1.next]] ?_)
      refine awp_cond (b := (decide (x9.1.next < 0))) (by kernel_rfl) (fun hb10 => ?_) (fun hb10 => ?_)
      ·rw [if_pos hb10] at h
       refine awp_exit ?_
       show awp ..
       refine x0 [1, 2, 3, 4, 5, 6, 7, 9, 44, 45] [] [(1, .ref 0 0), (2, .ref 1 0), (3, .ref 3 0), (4, .ref 4 0), (5, .ref 5 0), (6, .ref 6 0), (7, .ref 7 0), (9, .ref 8 0), (44, vi (w64 ((w64 (x3.Hi - x3.Lo)) + 1))), (45, vi (w64 (c5.1 + 1)))] [.cells [.d (L60 b0x0), vi b0x1, .d (L60 b0x2), .d (L51 b0x3), vi b0x4, .d (L51 b0x5)], .cells [.mp 2], .map (mpo112x114 x9.2), .cells [.fn (.func 76) [] [.ref 0 0, .ref 1 0, .ref 3 0, .ref 4 0]], .cells [.fn (.func 75) [] []], .cells [vi p_s.at_, vi p_s.border], .cells [vi 0, vi 0], .cells [vi c5.2.2.1, vi c5.2.2.2], .cells [vi x3.Lo, vi x3.Hi], .cells [vi x9.1.many, vi x9.1.next]] ?_
       exact gn 9 [1, 2, 3, 4, 5, 6, 7, 9, 44, 45] (hrn6 ((w64 (c5.1 + 1)), x9.2, c5.2.2.1, c5.2.2.2) h)
      ·rw [if_neg (ntrue hb10)] at h
       refine awp_skip ?_
       show awp ..
       refine awp_seq (g0 [1, 2, 3, 4, 5, 6, 7, 9, 11, 12, 44, 45, 75, 76, 77] [] [(1, .ref 0 0), (2, .ref 1 0), (3, .ref 3 0), (4, .ref 4 0), (5, .ref 5 0), (6, .ref 6 0), (7, .ref 7 0), (9, .ref 8 0), (11, vi (w64 (x3.Lo + c5.1))), (12, .ref 9 0), (44, vi (w64 ((w64 (x3.Hi - x3.Lo)) + 1))), (45, vi c5.1), (75, .d (L60 b0x2)), (76, vi (b0x2.length : Int)), (77, vi 0)] [.cells [.d (L60 b0x0), vi b0x1, .d (L60 b0x2), .d (L51 b0x3), vi b0x4, .d (L51 b0x5)], .cells [.mp 2], .map (mpo112x114 x9.2), .cells [.fn (.func 76) [] [.ref 0 0, .ref 1 0, .ref 3 0, .ref 4 0]], .cells [.fn (.func 75) [] []], .cells [vi p_s.at_, vi p_s.border], .cells [vi 0, vi 0], .cells [vi c5.2.2.1, vi c5.2.2.2], .cells [vi x3.Lo, vi x3.Hi], .cells [vi x9.1.many, vi x9.1.next]] ?_)
       obtain ⟨o11, ho11, h⟩ := ob h
       refine awp_cut1 (OutQ (fun (ro11 : S_colour_rest × (List (S_colour_state × S_colour_rest))) => [(6, .ref 5 0)]) (fun (ro11 : S_colour_rest × (List (S_colour_state × S_colour_rest))) => [.cells [.d (L60 b0x0), vi b0x1, .d (L60 b0x2), .d (L51 b0x3), vi b0x4, .d (L51 b0x5)], .cells [.mp 2], .map (mpo112x114 ro11.2), .cells [.fn (.func 76) [] [.ref 0 0, .ref 1 0, .ref 3 0, .ref 4 0]], .cells [.fn (.func 75) [] []], .cells [vi ro11.1.many, vi ro11.1.next]]) (fun (so11 : Int) => [(1, .ref 0 0), (2, .ref 1 0), (3, .ref 3 0), (4, .ref 4 0), (5, .ref 5 0), (6, .ref 6 0), (7, .ref 7 0), (9, .ref 8 0), (11, vi (w64 (x3.Lo + c5.1))), (12, .ref 9 0), (44, vi (w64 ((w64 (x3.Hi - x3.Lo)) + 1))), (45, vi c5.1)]) (fun (so11 : Int) => [.cells [.d (L60 b0x0), vi b0x1, .d (L60 b0x2), .d (L51 b0x3), vi b0x4, .d (L51 b0x5)], .cells [.mp 2], .map (mpo112x114 x9.2), .cells [.fn (.func 76) [] [.ref 0 0, .ref 1 0, .ref 3 0, .ref 4 0]], .cells [.fn (.func 75) [] []], .cells [vi p_s.at_, vi p_s.border], .cells [vi 0, vi 0], .cells [vi c5.2.2.1, vi c5.2.2.2], .cells [vi x3.Lo, vi x3.Hi], .cells [vi so11, vi x9.1.next]]) o11) ?_ ?_
       ·clear h
        have h := ho11
        clear ho11
        refine awp_selQ (gw 10 [1, 2, 3, 4, 5, 6, 7, 9, 11, 12, 44, 45, 75, 76, 77] [(1, .ref 0 0), (2, .ref 1 0), (3, .ref 3 0), (4, .ref 4 0), (5, .ref 5 0), (6, .ref 6 0), (7, .ref 7 0), (9, .ref 8 0), (11, vi (w64 (x3.Lo + c5.1))), (12, .ref 9 0), (44, vi (w64 ((w64 (x3.Hi - x3.Lo)) + 1))), (45, vi c5.1), (75, .d (L60 b0x2)), (76, vi (b0x2.length : Int)), (77, vi 0)] [.cells [.d (L60 b0x0), vi b0x1, .d (L60 b0x2), .d (L51 b0x3), vi b0x4, .d (L51 b0x5)], .cells [.mp 2], .map (mpo112x114 x9.2), .cells [.fn (.func 76) [] [.ref 0 0, .ref 1 0, .ref 3 0, .ref 4 0]], .cells [.fn (.func 75) [] []], .cells [vi p_s.at_, vi p_s.border], .cells [vi 0, vi 0], .cells [vi c5.2.2.1, vi c5.2.2.2], .cells [vi x3.Lo, vi x3.Hi], .cells [vi x9.1.many, vi x9.1.next]] ?_)
        refine awp_block (awp_loop (n := fuel) ?_)
        refine awpN_ind (fun n (c12 : Int × Int) => F76L2 p_s b0x2 x3 c5 n c12) o11 (fun (c12 : Int × Int) => [(1, .ref 0 0), (2, .ref 1 0), (3, .ref 3 0), (4, .ref 4 0), (5, .ref 5 0), (6, .ref 6 0), (7, .ref 7 0), (9, .ref 8 0), (11, vi (w64 (x3.Lo + c5.1))), (12, .ref 9 0), (44, vi (w64 ((w64 (x3.Hi - x3.Lo)) + 1))), (45, vi c5.1), (75, .d (L60 b0x2)), (76, vi (b0x2.length : Int)), (77, vi c12.1)]) (fun (c12 : Int × Int) => [.cells [.d (L60 b0x0), vi b0x1, .d (L60 b0x2), .d (L51 b0x3), vi b0x4, .d (L51 b0x5)], .cells [.mp 2], .map (mpo112x114 x9.2), .cells [.fn (.func 76) [] [.ref 0 0, .ref 1 0, .ref 3 0, .ref 4 0]], .cells [.fn (.func 75) [] []], .cells [vi p_s.at_, vi p_s.border], .cells [vi 0, vi 0], .cells [vi c5.2.2.1, vi c5.2.2.2], .cells [vi x3.Lo, vi x3.Hi], .cells [vi c12.2, vi x9.1.next]]) (fun _ => rfl) ?_ fuel (0, x9.1.many) h
        clear h
        intro n13 c12 h hrn13
        change F76L2 p_s b0x2 x3 c5 (n13 + 1) c12 = some o11 at h
        rw [F76L2] at h
        refine g0 [1, 2, 3, 4, 5, 6, 7, 9, 11, 12, 44, 45, 75, 76, 77, 78] [] [(1, .ref 0 0), (2, .ref 1 0), (3, .ref 3 0), (4, .ref 4 0), (5, .ref 5 0), (6, .ref 6 0), (7, .ref 7 0), (9, .ref 8 0), (11, vi (w64 (x3.Lo + c5.1))), (12, .ref 9 0), (44, vi (w64 ((w64 (x3.Hi - x3.Lo)) + 1))), (45, vi c5.1), (75, .d (L60 b0x2)), (76, vi (b0x2.length : Int)), (77, vi c12.1), (78, vb (decide (c12.1 < (b0x2.length : Int))))] [.cells [.d (L60 b0x0), vi b0x1, .d (L60 b0x2), .d (L51 b0x3), vi b0x4, .d (L51 b0x5)], .cells [.mp 2], .map (mpo112x114 x9.2), .cells [.fn (.func 76) [] [.ref 0 0, .ref 1 0, .ref 3 0, .ref 4 0]], .cells [.fn (.func 75) [] []], .cells [vi p_s.at_, vi p_s.border], .cells [vi 0, vi 0], .cells [vi c5.2.2.1, vi c5.2.2.2], .cells [vi x3.Lo, vi x3.Hi], .cells [vi c12.2, vi x9.1.next]] ?_
        refine awp_seq (awp_cond (b := (decide (c12.1 < (b0x2.length : Int)))) (by kernel_rfl) (fun hb14 => ?_) (fun hb14 => ?_))
        ·rw [if_pos hb14] at h
         refine awp_skip ?_
         show awp ..
         refine awp_seq (awp_block ?_)
         obtain ⟨x15, hx15, h⟩ := ob h
         refine gr [1, 2, 3, 4, 5, 6, 7, 9, 11, 12, 14, 44, 45, 75, 76, 77] [.cells (cel60 x15)] [(1, .ref 0 0), (2, .ref 1 0), (3, .ref 3 0), (4, .ref 4 0), (5, .ref 5 0), (6, .ref 6 0), (7, .ref 7 0), (9, .ref 8 0), (11, vi (w64 (x3.Lo + c5.1))), (12, .ref 9 0), (14, .ref 10 0), (44, vi (w64 ((w64 (x3.Hi - x3.Lo)) + 1))), (45, vi c5.1), (75, .d (L60 b0x2)), (76, vi (b0x2.length : Int)), (77, vi c12.1)] [.cells [.d (L60 b0x0), vi b0x1, .d (L60 b0x2), .d (L51 b0x3), vi b0x4, .d (L51 b0x5)], .cells [.mp 2], .map (mpo112x114 x9.2), .cells [.fn (.func 76) [] [.ref 0 0, .ref 1 0, .ref 3 0, .ref 4 0]], .cells [.fn (.func 75) [] []], .cells [vi p_s.at_, vi p_s.border], .cells [vi 0, vi 0], .cells [vi c5.2.2.1, vi c5.2.2.2], .cells [vi x3.Lo, vi x3.Hi], .cells [vi c12.2, vi x9.1.next], .cells [vi x15.Lo, vi x15.Hi]] [IX60 b0x2 c12.1 x15] (idxOk cel60_len hx15) ?_
         obtain ⟨x16, hx16, h⟩ := ob h
         obtain ⟨x17, hx17, h⟩ := ob h
         refine gr [1, 2, 3, 4, 5, 6, 7, 9, 11, 12, 44, 45, 75, 76, 77, 97] [.no, .no, .no, .call [(.agg [(di x15.Lo), (di x15.Hi)]), (di (w64 (x3.Lo + c5.1)))] (vb x16), .no, .no, .no, .no, .no, .no, .no, .no, .no, .call [(.agg [(di x15.Lo), (di x15.Hi)]), (di p_s.border)] (vb x17), .no, .own] [(1, .ref 0 0), (2, .ref 1 0), (3, .ref 3 0), (4, .ref 4 0), (5, .ref 5 0), (6, .ref 6 0), (7, .ref 7 0), (9, .ref 8 0), (11, vi (w64 (x3.Lo + c5.1))), (12, .ref 9 0), (44, vi (w64 ((w64 (x3.Hi - x3.Lo)) + 1))), (45, vi c5.1), (75, .d (L60 b0x2)), (76, vi (b0x2.length : Int)), (77, vi c12.1), (97, vb (cond x16 (cond (decide (p_s.at_ < 0)) true (!x17)) false))] [.cells [.d (L60 b0x0), vi b0x1, .d (L60 b0x2), .d (L51 b0x3), vi b0x4, .d (L51 b0x5)], .cells [.mp 2], .map (mpo112x114 x9.2), .cells [.fn (.func 76) [] [.ref 0 0, .ref 1 0, .ref 3 0, .ref 4 0]], .cells [.fn (.func 75) [] []], .cells [vi p_s.at_, vi p_s.border], .cells [vi 0, vi 0], .cells [vi c5.2.2.1, vi c5.2.2.2], .cells [vi x3.Lo, vi x3.Hi], .cells [vi c12.2, vi x9.1.next], .cells [vi x15.Lo, vi x15.Hi]] [PCall Try.prog 75 [(.agg [(di x15.Lo), (di x15.Hi)]), (di (w64 (x3.Lo + c5.1)))] (vb x16), (x16 = true → x16 = true), (x16 = true → x16 = true), (x16 = true → x16 = true), ((x16 && (!(decide (p_s.at_ < 0)))) = true → (x16 && (!(decide (p_s.at_ < 0)))) = true), ((x16 && (!(decide (p_s.at_ < 0)))) = true → (x16 && (!(decide (p_s.at_ < 0)))) = true), ((x16 && (!(decide (p_s.at_ < 0)))) = true → (x16 && (!(decide (p_s.at_ < 0)))) = true), ((x16 && (!(decide (p_s.at_ < 0)))) = true → (x16 && (!(decide (p_s.at_ < 0)))) = true), ((x16 && (!(decide (p_s.at_ < 0)))) = true → PCall Try.prog 75 [(.agg [(di x15.Lo), (di x15.Hi)]), (di p_s.border)] (vb x17)), ((x16 && (!(decide (p_s.at_ < 0)))) = true → (x16 && (!(decide (p_s.at_ < 0)))) = true), (x16 = true → x16 = true), (x16 = true → (decide (p_s.at_ < 0)) = false → (x16 && (!(decide (p_s.at_ < 0)))) = true), (x16 = true → x16 = true)] (And.intro (ct75 hx16) (And.intro (id) (And.intro (id) (And.intro (id) (And.intro (id) (And.intro (id) (And.intro (id) (And.intro (id) (And.intro ((fun hg => ct75 (optG_of hx17 hg))) (And.intro (id) (And.intro (id) (And.intro ((fun hg h1 => by first | exact hg | exact h1 | (rw [hg, h1]; rfl) | (simp only [hg, h1, Bool.not_true, Bool.not_false, Bool.and_self, Bool.true_and, Bool.and_true]; done) | (simp only [Bool.and_eq_true] at hg; simp only [hg, h1, Bool.not_true, Bool.not_false, Bool.and_self, Bool.true_and, Bool.and_true]; done) | simp_all)) (id))))))))))))) ?_
         refine awp_cond (b := (cond x16 (cond (decide (p_s.at_ < 0)) true (!x17)) false)) (by kernel_rfl) (fun hb18 => ?_) (fun hb18 => ?_)
         ·rw [if_pos hb18] at h
          refine x0 [1, 2, 3, 4, 5, 6, 7, 9, 11, 12, 44, 45, 75, 76, 77] [] [(1, .ref 0 0), (2, .ref 1 0), (3, .ref 3 0), (4, .ref 4 0), (5, .ref 5 0), (6, .ref 6 0), (7, .ref 7 0), (9, .ref 8 0), (11, vi (w64 (x3.Lo + c5.1))), (12, .ref 9 0), (44, vi (w64 ((w64 (x3.Hi - x3.Lo)) + 1))), (45, vi c5.1), (75, .d (L60 b0x2)), (76, vi (b0x2.length : Int)), (77, vi c12.1)] [.cells [.d (L60 b0x0), vi b0x1, .d (L60 b0x2), .d (L51 b0x3), vi b0x4, .d (L51 b0x5)], .cells [.mp 2], .map (mpo112x114 x9.2), .cells [.fn (.func 76) [] [.ref 0 0, .ref 1 0, .ref 3 0, .ref 4 0]], .cells [.fn (.func 75) [] []], .cells [vi p_s.at_, vi p_s.border], .cells [vi 0, vi 0], .cells [vi c5.2.2.1, vi c5.2.2.2], .cells [vi x3.Lo, vi x3.Hi], .cells [vi (w64 (c12.2 + 1)), vi x9.1.next], .cells [vi x15.Lo, vi x15.Hi]] ?_
          show awp ..
          refine x0 [1, 2, 3, 4, 5, 6, 7, 9, 11, 12, 44, 45, 75, 76, 77] [] [(1, .ref 0 0), (2, .ref 1 0), (3, .ref 3 0), (4, .ref 4 0), (5, .ref 5 0), (6, .ref 6 0), (7, .ref 7 0), (9, .ref 8 0), (11, vi (w64 (x3.Lo + c5.1))), (12, .ref 9 0), (44, vi (w64 ((w64 (x3.Hi - x3.Lo)) + 1))), (45, vi c5.1), (75, .d (L60 b0x2)), (76, vi (b0x2.length : Int)), (77, vi (w64 (c12.1 + 1)))] [.cells [.d (L60 b0x0), vi b0x1, .d (L60 b0x2), .d (L51 b0x3), vi b0x4, .d (L51 b0x5)], .cells [.mp 2], .map (mpo112x114 x9.2), .cells [.fn (.func 76) [] [.ref 0 0, .ref 1 0, .ref 3 0, .ref 4 0]], .cells [.fn (.func 75) [] []], .cells [vi p_s.at_, vi p_s.border], .cells [vi 0, vi 0], .cells [vi c5.2.2.1, vi c5.2.2.2], .cells [vi x3.Lo, vi x3.Hi], .cells [vi (w64 (c12.2 + 1)), vi x9.1.next], .cells [vi x15.Lo, vi x15.Hi]] ?_
          exact gn 10 [1, 2, 3, 4, 5, 6, 7, 9, 11, 12, 44, 45, 75, 76, 77] (hrn13 ((w64 (c12.1 + 1)), (w64 (c12.2 + 1))) h)
         ·rw [if_neg (ntrue hb18)] at h
          refine awp_skip ?_
          show awp ..
          refine x0 [1, 2, 3, 4, 5, 6, 7, 9, 11, 12, 44, 45, 75, 76, 77] [] [(1, .ref 0 0), (2, .ref 1 0), (3, .ref 3 0), (4, .ref 4 0), (5, .ref 5 0), (6, .ref 6 0), (7, .ref 7 0), (9, .ref 8 0), (11, vi (w64 (x3.Lo + c5.1))), (12, .ref 9 0), (44, vi (w64 ((w64 (x3.Hi - x3.Lo)) + 1))), (45, vi c5.1), (75, .d (L60 b0x2)), (76, vi (b0x2.length : Int)), (77, vi (w64 (c12.1 + 1)))] [.cells [.d (L60 b0x0), vi b0x1, .d (L60 b0x2), .d (L51 b0x3), vi b0x4, .d (L51 b0x5)], .cells [.mp 2], .map (mpo112x114 x9.2), .cells [.fn (.func 76) [] [.ref 0 0, .ref 1 0, .ref 3 0, .ref 4 0]], .cells [.fn (.func 75) [] []], .cells [vi p_s.at_, vi p_s.border], .cells [vi 0, vi 0], .cells [vi c5.2.2.1, vi c5.2.2.2], .cells [vi x3.Lo, vi x3.Hi], .cells [vi c12.2, vi x9.1.next], .cells [vi x15.Lo, vi x15.Hi]] ?_
          exact gn 10 [1, 2, 3, 4, 5, 6, 7, 9, 11, 12, 44, 45, 75, 76, 77] (hrn13 ((w64 (c12.1 + 1)), c12.2) h)
        ·rw [if_neg (ntrue hb14)] at h
         refine awp_exit ?_
         obtain rfl := Option.some.inj h
         exact gs [0, 1, 2, 3, 4, 5, 6, 7, 8, 9] [1, 2, 3, 4, 5, 6, 7, 9, 11, 12, 44, 45] OutQ.norm
       ·intro e T H hq
        cases o11 with
        | inl ro11 =>
         obtain ⟨rfl, rfl, rfl⟩ := hq
         rw [outK_inl] at h
         obtain rfl := Option.some.inj h
         exact gs [0, 1, 2, 3, 4, 5] [6] OutQ.ret
        | inr so11 =>
         obtain ⟨rfl, rfl, rfl⟩ := hq
         rw [outK_inr] at h
         show awp ..
         refine gr [1, 2, 3, 4, 5, 6, 7, 9, 11, 12, 44, 45, 112] [] [(1, .ref 0 0), (2, .ref 1 0), (3, .ref 3 0), (4, .ref 4 0), (5, .ref 5 0), (6, .ref 6 0), (7, .ref 7 0), (9, .ref 8 0), (11, vi (w64 (x3.Lo + c5.1))), (12, .ref 9 0), (44, vi (w64 ((w64 (x3.Hi - x3.Lo)) + 1))), (45, vi c5.1), (112, vb (cond (decide (c5.2.2.2 < 0)) true (decide (so11 < c5.2.2.1))))] [.cells [.d (L60 b0x0), vi b0x1, .d (L60 b0x2), .d (L51 b0x3), vi b0x4, .d (L51 b0x5)], .cells [.mp 2], .map (mpo112x114 x9.2), .cells [.fn (.func 76) [] [.ref 0 0, .ref 1 0, .ref 3 0, .ref 4 0]], .cells [.fn (.func 75) [] []], .cells [vi p_s.at_, vi p_s.border], .cells [vi 0, vi 0], .cells [vi c5.2.2.1, vi c5.2.2.2], .cells [vi x3.Lo, vi x3.Hi], .cells [vi so11, vi x9.1.next]] [((!(decide (c5.2.2.2 < 0))) = true → (!(decide (c5.2.2.2 < 0))) = true), ((!(decide (c5.2.2.2 < 0))) = true → (!(decide (c5.2.2.2 < 0))) = true), ((!(decide (c5.2.2.2 < 0))) = true → (!(decide (c5.2.2.2 < 0))) = true), ((!(decide (c5.2.2.2 < 0))) = true → (!(decide (c5.2.2.2 < 0))) = true), ((decide (c5.2.2.2 < 0)) = false → (!(decide (c5.2.2.2 < 0))) = true)] (And.intro (id) (And.intro (id) (And.intro (id) (And.intro (id) (not_of))))) ?_
         refine awp_cond (b := (cond (decide (c5.2.2.2 < 0)) true (decide (so11 < c5.2.2.1)))) (by kernel_rfl) (fun hb19 => ?_) (fun hb19 => ?_)
         ·rw [if_pos hb19] at h
          refine x0 [1, 2, 3, 4, 5, 6, 7, 9, 44, 45] [] [(1, .ref 0 0), (2, .ref 1 0), (3, .ref 3 0), (4, .ref 4 0), (5, .ref 5 0), (6, .ref 6 0), (7, .ref 7 0), (9, .ref 8 0), (44, vi (w64 ((w64 (x3.Hi - x3.Lo)) + 1))), (45, vi c5.1)] [.cells [.d (L60 b0x0), vi b0x1, .d (L60 b0x2), .d (L51 b0x3), vi b0x4, .d (L51 b0x5)], .cells [.mp 2], .map (mpo112x114 x9.2), .cells [.fn (.func 76) [] [.ref 0 0, .ref 1 0, .ref 3 0, .ref 4 0]], .cells [.fn (.func 75) [] []], .cells [vi p_s.at_, vi p_s.border], .cells [vi 0, vi 0], .cells [vi so11, vi (w64 (x3.Lo + c5.1))], .cells [vi x3.Lo, vi x3.Hi], .cells [vi so11, vi x9.1.next]] ?_
          show awp ..
          refine x0 [1, 2, 3, 4, 5, 6, 7, 9, 44, 45] [] [(1, .ref 0 0), (2, .ref 1 0), (3, .ref 3 0), (4, .ref 4 0), (5, .ref 5 0), (6, .ref 6 0), (7, .ref 7 0), (9, .ref 8 0), (44, vi (w64 ((w64 (x3.Hi - x3.Lo)) + 1))), (45, vi (w64 (c5.1 + 1)))] [.cells [.d (L60 b0x0), vi b0x1, .d (L60 b0x2), .d (L51 b0x3), vi b0x4, .d (L51 b0x5)], .cells [.mp 2], .map (mpo112x114 x9.2), .cells [.fn (.func 76) [] [.ref 0 0, .ref 1 0, .ref 3 0, .ref 4 0]], .cells [.fn (.func 75) [] []], .cells [vi p_s.at_, vi p_s.border], .cells [vi 0, vi 0], .cells [vi so11, vi (w64 (x3.Lo + c5.1))], .cells [vi x3.Lo, vi x3.Hi], .cells [vi so11, vi x9.1.next]] ?_
          exact gn 9 [1, 2, 3, 4, 5, 6, 7, 9, 44, 45] (hrn6 ((w64 (c5.1 + 1)), x9.2, so11, (w64 (x3.Lo + c5.1))) h)
         ·rw [if_neg (ntrue hb19)] at h
          refine awp_skip ?_
          show awp ..
          refine x0 [1, 2, 3, 4, 5, 6, 7, 9, 44, 45] [] [(1, .ref 0 0), (2, .ref 1 0), (3, .ref 3 0), (4, .ref 4 0), (5, .ref 5 0), (6, .ref 6 0), (7, .ref 7 0), (9, .ref 8 0), (44, vi (w64 ((w64 (x3.Hi - x3.Lo)) + 1))), (45, vi (w64 (c5.1 + 1)))] [.cells [.d (L60 b0x0), vi b0x1, .d (L60 b0x2), .d (L51 b0x3), vi b0x4, .d (L51 b0x5)], .cells [.mp 2], .map (mpo112x114 x9.2), .cells [.fn (.func 76) [] [.ref 0 0, .ref 1 0, .ref 3 0, .ref 4 0]], .cells [.fn (.func 75) [] []], .cells [vi p_s.at_, vi p_s.border], .cells [vi 0, vi 0], .cells [vi c5.2.2.1, vi c5.2.2.2], .cells [vi x3.Lo, vi x3.Hi], .cells [vi so11, vi x9.1.next]] ?_
          exact gn 9 [1, 2, 3, 4, 5, 6, 7, 9, 44, 45] (hrn6 ((w64 (c5.1 + 1)), x9.2, c5.2.2.1, c5.2.2.2) h)
    ·rw [if_neg (ntrue hb7)] at h
     refine awp_exit ?_
     obtain rfl := Option.some.inj h
     exact gs [0, 1, 2, 3, 4, 5, 6, 7, 8] [2, 5, 6, 7] OutQ.norm
   ·intro e T H hq
    cases o4 with
    | inl ro4 =>
     obtain ⟨rfl, rfl, rfl⟩ := hq
     rw [outK_inl] at h
     obtain rfl := Option.some.inj h
     exact (main_retS [0, 1, 2, 3, 4] (.d (.agg [(di ro4.1.many), (di ro4.1.next)])) (by kernel_rfl) (by kernel_rfl) (by kernel_rfl) (by kernel_rfl))
    | inr so4 =>
     obtain ⟨rfl, rfl, rfl⟩ := hq
     rw [outK_inr] at h
     show awp ..
     refine gr [6, 7] [.no, .no, .no, .kvs (mpo112x114 (mset eqk112 p_s (⟨so4.2.1, so4.2.2⟩ : S_colour_rest) so4.1))] [(6, .ref 6 0), (7, .ref 7 0)] [.cells [.d (L60 b0x0), vi b0x1, .d (L60 b0x2), .d (L51 b0x3), vi b0x4, .d (L51 b0x5)], .cells [.mp 2], .map (mpo112x114 (mset eqk112 p_s (⟨so4.2.1, so4.2.2⟩ : S_colour_rest) so4.1)), .cells [.fn (.func 76) [] [.ref 0 0, .ref 1 0, .ref 3 0, .ref 4 0]], .cells [.fn (.func 75) [] []], .cells [vi p_s.at_, vi p_s.border], .cells [vi 0, vi 0], .cells [vi so4.2.1, vi so4.2.2], .cells [vi x3.Lo, vi x3.Hi]] [(setD (.agg [(di p_s.at_), (di p_s.border)]) (.agg [(di so4.2.1), (di so4.2.2)]) (mpo112x114 so4.1) = some (mpo112x114 (mset eqk112 p_s (⟨so4.2.1, so4.2.2⟩ : S_colour_rest) so4.1)))] (setOk (fk := dat112) (fv := dat114) eqk112_ok p_s (⟨so4.2.1, so4.2.2⟩ : S_colour_rest) so4.1) ?_
     refine g0 [6] [] [(6, .ref 6 0)] [.cells [.d (L60 b0x0), vi b0x1, .d (L60 b0x2), .d (L51 b0x3), vi b0x4, .d (L51 b0x5)], .cells [.mp 2], .map (mpo112x114 (mset eqk112 p_s (⟨so4.2.1, so4.2.2⟩ : S_colour_rest) so4.1)), .cells [.fn (.func 76) [] [.ref 0 0, .ref 1 0, .ref 3 0, .ref 4 0]], .cells [.fn (.func 75) [] []], .cells [vi p_s.at_, vi p_s.border], .cells [vi so4.2.1, vi so4.2.2], .cells [vi so4.2.1, vi so4.2.2], .cells [vi x3.Lo, vi x3.Hi]] ?_
     obtain rfl := Option.some.inj h
     refine gw 9 [6] [(6, .ref 6 0)] [.cells [.d (L60 b0x0), vi b0x1, .d (L60 b0x2), .d (L51 b0x3), vi b0x4, .d (L51 b0x5)], .cells [.mp 2], .map (mpo112x114 (mset eqk112 p_s (⟨so4.2.1, so4.2.2⟩ : S_colour_rest) so4.1)), .cells [.fn (.func 76) [] [.ref 0 0, .ref 1 0, .ref 3 0, .ref 4 0]], .cells [.fn (.func 75) [] []], .cells [vi p_s.at_, vi p_s.border], .cells [vi so4.2.1, vi so4.2.2], .cells [vi so4.2.1, vi so4.2.2], .cells [vi x3.Lo, vi x3.Hi]] ?_
     exact awp_ret (main_retS [0, 1, 2, 3, 4] (.d (.agg [(di so4.2.1), (di so4.2.2)])) (by kernel_rfl) (by kernel_rfl) (by kernel_rfl) (by kernel_rfl))
theorem ct76 : ∀ {fuel : Nat} {p_s : S_colour_state} {b0x0 : List S_api_Span} {b0x1 : Int} {b0x2 : List S_api_Span} {b0x3 : List S_api_ClPair} {b0x4 : Int} {b0x5 : List S_api_ClPair} {m2 : List (S_colour_state × S_colour_rest)} {res : S_colour_rest × (List (S_colour_state × S_colour_rest))}, F76 fuel p_s b0x0 b0x1 b0x2 b0x3 b0x4 b0x5 m2 = some res → HCall Try.prog 76 [.d (.agg [(di p_s.at_), (di p_s.border)]), .ref 0 0, .ref 1 0, .ref 3 0, .ref 4 0] [.cells [.d (L60 b0x0), vi b0x1, .d (L60 b0x2), .d (L51 b0x3), vi b0x4, .d (L51 b0x5)], .cells [.mp 2], .map (mpo112x114 m2), .cells [.fn (.func 76) [] [.ref 0 0, .ref 1 0, .ref 3 0, .ref 4 0]], .cells [.fn (.func 75) [] []]] (.d (.agg [(di res.1.many), (di res.1.next)])) [.cells [.d (L60 b0x0), vi b0x1, .d (L60 b0x2), .d (L51 b0x3), vi b0x4, .d (L51 b0x5)], .cells [.mp 2], .map (mpo112x114 res.2), .cells [.fn (.func 76) [] [.ref 0 0, .ref 1 0, .ref 3 0, .ref 4 0]], .cells [.fn (.func 75) [] []]] := by
 intro fuel
 induction fuel with
 | zero => intro _ _ _ _ _ _ _ _ _ h; exact absurd h (by simp [F76])
 | succ n ih => intro _ _ _ _ _ _ _ _ _ h; exact ct76B (fun _ _ _ _ _ _ _ _ _ h => ih h) h
theorem ct35 {fuel : Nat}  {p_m : S_api_ClMap} {res : (List Int) × Int × Int} (h : F35 fuel p_m = some res) : PCall Try.prog 35 [(ma p_m)] (.tup [.d (L3 res.1), vi res.2.1, vi res.2.2]) := by
 refine PCall.of_awp tt_ok (N := 49) Try.func35 rfl (by kernel_rfl) rfl (Nat.le_of_ble_eq_true rfl) rfl ?_
 unfold F35 at h
 refine g0 [1, 2] [] [(1, .ref 0 0), (2, .d dnil)] [mc p_m] ?_
 refine awp_seq ?_
 obtain ⟨x1, hx1, h⟩ := ob h
 refine gr [1, 2, 4] [.no, .call [(ma p_m)] (.tup [vi x1.1, vi x1.2.1, vi x1.2.2])] [(1, .ref 0 0), (2, .d dnil), (4, vi x1.2.2)] [mc p_m] [PCall Try.prog 17 [(ma p_m)] (.tup [vi x1.1, vi x1.2.1, vi x1.2.2])] (ct17 hx1) ?_
 refine g0 [1, 2, 4, 17] [] [(1, .ref 0 0), (2, .d dnil), (4, vi x1.2.2), (17, vb (x1.2.2 != 0))] [mc p_m] ?_
 refine awp_cond (b := (x1.2.2 != 0)) (by kernel_rfl) (fun hb2 => ?_) (fun hb2 => ?_)
 ·rw [if_pos hb2] at h
  refine g0 [2, 3, 4] [] [(2, .d dnil), (3, vi 0), (4, vi x1.2.2)] [mc p_m] ?_
  obtain rfl := Option.some.inj h
  refine gw 1 [2, 3, 4] [(2, .d dnil), (3, vi 0), (4, vi x1.2.2)] [mc p_m] ?_
  refine awp_laxT 2 _ (L3 ([] : List Int)) _ (by kernel_rfl) (.nil (e := 1)) rfl ?_
  refine gw 1 [2, 3, 4] [(2, .d (L3 ([] : List Int))), (3, vi 0), (4, vi x1.2.2)] [mc p_m] ?_
  exact awp_ret gm
 ·rw [if_neg (ntrue hb2)] at h
  refine awp_skip ?_
  show awp ..
  refine g0 [1, 2, 5] [] [(1, .ref 0 0), (2, .d dnil), (5, .ref 1 0)] [mc p_m, .cells [.fn (.func 75) [] []]] ?_
  refine g0 [1, 2, 5, 6] [] [(1, .ref 0 0), (2, .d dnil), (5, .ref 1 0), (6, .ref 3 0)] [mc p_m, .cells [.fn (.func 75) [] []], .map [], .cells [.mp 2]] ?_
  refine g0 [1, 2, 5, 6, 7] [] [(1, .ref 0 0), (2, .d dnil), (5, .ref 1 0), (6, .ref 3 0), (7, .ref 4 0)] [mc p_m, .cells [.fn (.func 75) [] []], .map [], .cells [.mp 2], .cells [.d (.v (.nilFunc))]] ?_
  refine g0 [1, 2, 7] [] [(1, .ref 0 0), (2, .d dnil), (7, .ref 4 0)] [mc p_m, .cells [.fn (.func 75) [] []], .map [], .cells [.mp 2], .cells [.fn (.func 76) [] [.ref 0 0, .ref 3 0, .ref 4 0, .ref 1 0]]] ?_
  refine g0 [1, 2, 7, 8] [] [(1, .ref 0 0), (2, .d dnil), (7, .ref 4 0), (8, .ref 5 0)] [mc p_m, .cells [.fn (.func 75) [] []], .map [], .cells [.mp 2], .cells [.fn (.func 76) [] [.ref 0 0, .ref 3 0, .ref 4 0, .ref 1 0]], .cells [vi (-1), vi 0]] ?_
  obtain ⟨x3, hx3, h⟩ := ob h
  refine gr [1, 2, 3, 7, 8] [.no, .no, .hcall [(0, false), (3, false), (2, false), (4, false), (1, false)] (.d (.agg [(di x3.1.many), (di x3.1.next)])) [mc p_m, .cells [.mp 2], .map (mpo112x114 x3.2), .cells [.fn (.func 76) [] [.ref 0 0, .ref 1 0, .ref 3 0, .ref 4 0]], .cells [.fn (.func 75) [] []]]] [(1, .ref 0 0), (2, .d dnil), (3, vi x3.1.many), (7, .ref 4 0), (8, .ref 5 0)] [mc p_m, .cells [.fn (.func 75) [] []], .map (mpo112x114 x3.2), .cells [.mp 2], .cells [.fn (.func 76) [] [.ref 0 0, .ref 3 0, .ref 4 0, .ref 1 0]], .cells [vi (-1), vi 0]] [HCall Try.prog 76 [.d (.agg [(di (-1)), (di 0)]), .ref 0 0, .ref 1 0, .ref 3 0, .ref 4 0] [mc p_m, .cells [.mp 2], .map [], .cells [.fn (.func 76) [] [.ref 0 0, .ref 1 0, .ref 3 0, .ref 4 0]], .cells [.fn (.func 75) [] []]] (.d (.agg [(di x3.1.many), (di x3.1.next)])) [mc p_m, .cells [.mp 2], .map (mpo112x114 x3.2), .cells [.fn (.func 76) [] [.ref 0 0, .ref 1 0, .ref 3 0, .ref 4 0]], .cells [.fn (.func 75) [] []]]] (ct76 hx3) ?_
  refine awp_seq (g0 [2, 3, 7, 8, 28, 29] [] [(2, .d dnil), (3, vi x3.1.many), (7, .ref 4 0), (8, .ref 5 0), (28, vi (p_m.Borders.length : Int)), (29, vi 0)] [mc p_m, .cells [.fn (.func 75) [] []], .map (mpo112x114 x3.2), .cells [.mp 2], .cells [.fn (.func 76) [] [.ref 0 0, .ref 3 0, .ref 4 0, .ref 1 0]], .cells [vi (-1), vi 0]] ?_)
  refine awp_nil 2 1 (by kernel_rfl) ?_
  refine awp_eq (T' := [(2, .sl 1 6 0 ([] : List Int).length), (3, vi x3.1.many), (7, .ref 4 0), (8, .ref 5 0), (28, vi (p_m.Borders.length : Int)), (29, vi 0)]) (H' := [mc p_m, .cells [.fn (.func 75) [] []], .map (mpo112x114 x3.2), .cells [.mp 2], .cells [.fn (.func 76) [] [.ref 0 0, .ref 3 0, .ref 4 0, .ref 1 0]], .cells [vi (-1), vi 0], .data (([] : List Int).flatMap cel3)]) (by kernel_rfl) (by kernel_rfl) ?_
  refine gw 7 [2, 3, 7, 8, 28, 29] [(2, .sl 1 6 0 ([] : List Int).length), (3, vi x3.1.many), (7, .ref 4 0), (8, .ref 5 0), (28, vi (p_m.Borders.length : Int)), (29, vi 0)] [mc p_m, .cells [.fn (.func 75) [] []], .map (mpo112x114 x3.2), .cells [.mp 2], .cells [.fn (.func 76) [] [.ref 0 0, .ref 3 0, .ref 4 0, .ref 1 0]], .cells [vi (-1), vi 0], .data (([] : List Int).flatMap cel3)] ?_
  obtain ⟨o5, ho5, h⟩ := ob h
  refine awp_cut1 (OutQ (fun (ro5 : (List Int) × Int × Int) => [(2, .d (L3 ro5.1)), (3, vi ro5.2.1), (4, vi ro5.2.2)]) (fun (ro5 : (List Int) × Int × Int) => []) (fun (so5 : (List (S_colour_state × S_colour_rest)) × Int × Int × (List Int)) => [(2, .sl 1 6 0 so5.2.2.2.length), (3, vi x3.1.many)]) (fun (so5 : (List (S_colour_state × S_colour_rest)) × Int × Int × (List Int)) => [mc p_m, .cells [.fn (.func 75) [] []], .map (mpo112x114 so5.1), .cells [.mp 2], .cells [.fn (.func 76) [] [.ref 0 0, .ref 3 0, .ref 4 0, .ref 1 0]], .cells [vi so5.2.1, vi so5.2.2.1], .data (so5.2.2.2.flatMap cel3)]) o5) ?_ ?_
  ·clear h
   have h := ho5
   clear ho5
   refine awp_selQ (gw 7 [2, 3, 7, 8, 28, 29] [(2, .sl 1 6 0 ([] : List Int).length), (3, vi x3.1.many), (7, .ref 4 0), (8, .ref 5 0), (28, vi (p_m.Borders.length : Int)), (29, vi 0)] [mc p_m, .cells [.fn (.func 75) [] []], .map (mpo112x114 x3.2), .cells [.mp 2], .cells [.fn (.func 76) [] [.ref 0 0, .ref 3 0, .ref 4 0, .ref 1 0]], .cells [vi (-1), vi 0], .data (([] : List Int).flatMap cel3)] ?_)
   refine awp_block (awp_loop (n := fuel) ?_)
   refine awpN_ind (fun n (c6 : Int × (List (S_colour_state × S_colour_rest)) × Int × Int × (List Int)) => F35L1 fuel p_m n c6) o5 (fun (c6 : Int × (List (S_colour_state × S_colour_rest)) × Int × Int × (List Int)) => [(2, .sl 1 6 0 c6.2.2.2.2.length), (3, vi x3.1.many), (7, .ref 4 0), (8, .ref 5 0), (28, vi (p_m.Borders.length : Int)), (29, vi c6.1)]) (fun (c6 : Int × (List (S_colour_state × S_colour_rest)) × Int × Int × (List Int)) => [mc p_m, .cells [.fn (.func 75) [] []], .map (mpo112x114 c6.2.1), .cells [.mp 2], .cells [.fn (.func 76) [] [.ref 0 0, .ref 3 0, .ref 4 0, .ref 1 0]], .cells [vi c6.2.2.1, vi c6.2.2.2.1], .data (c6.2.2.2.2.flatMap cel3)]) (fun _ => rfl) ?_ fuel (0, x3.2, (-1), 0, ([] : List Int)) h
   clear h
   intro n7 c6 h hrn7
   change F35L1 fuel p_m (n7 + 1) c6 = some o5 at h
   rw [F35L1] at h
   refine g0 [2, 3, 7, 8, 28, 29, 30] [] [(2, .sl 1 6 0 c6.2.2.2.2.length), (3, vi x3.1.many), (7, .ref 4 0), (8, .ref 5 0), (28, vi (p_m.Borders.length : Int)), (29, vi c6.1), (30, vb (decide (c6.1 < (p_m.Borders.length : Int))))] [mc p_m, .cells [.fn (.func 75) [] []], .map (mpo112x114 c6.2.1), .cells [.mp 2], .cells [.fn (.func 76) [] [.ref 0 0, .ref 3 0, .ref 4 0, .ref 1 0]], .cells [vi c6.2.2.1, vi c6.2.2.2.1], .data (c6.2.2.2.2.flatMap cel3)] ?_
   refine awp_seq (awp_cond (b := (decide (c6.1 < (p_m.Borders.length : Int)))) (by kernel_rfl) (fun hb8 => ?_) (fun hb8 => ?_))
   ·rw [if_pos hb8] at h
    refine awp_skip ?_
    show awp ..
    refine awp_seq (awp_block ?_)
    obtain ⟨x9, hx9, h⟩ := ob h
    refine gr [2, 3, 7, 8, 9, 28, 29] [.no, .no, .hcall [(0, false), (3, false), (2, false), (4, false), (1, false)] (.d (.agg [(di x9.1.many), (di x9.1.next)])) [mc p_m, .cells [.mp 2], .map (mpo112x114 x9.2), .cells [.fn (.func 76) [] [.ref 0 0, .ref 1 0, .ref 3 0, .ref 4 0]], .cells [.fn (.func 75) [] []]]] [(2, .sl 1 6 0 c6.2.2.2.2.length), (3, vi x3.1.many), (7, .ref 4 0), (8, .ref 5 0), (9, vi x9.1.next), (28, vi (p_m.Borders.length : Int)), (29, vi c6.1)] [mc p_m, .cells [.fn (.func 75) [] []], .map (mpo112x114 x9.2), .cells [.mp 2], .cells [.fn (.func 76) [] [.ref 0 0, .ref 3 0, .ref 4 0, .ref 1 0]], .cells [vi c6.2.2.1, vi c6.2.2.2.1], .data (c6.2.2.2.2.flatMap cel3)] [HCall Try.prog 76 [.d (.agg [(di c6.2.2.1), (di c6.2.2.2.1)]), .ref 0 0, .ref 1 0, .ref 3 0, .ref 4 0] [mc p_m, .cells [.mp 2], .map (mpo112x114 c6.2.1), .cells [.fn (.func 76) [] [.ref 0 0, .ref 1 0, .ref 3 0, .ref 4 0]], .cells [.fn (.func 75) [] []]] (.d (.agg [(di x9.1.many), (di x9.1.next)])) [mc p_m, .cells [.mp 2], .map (mpo112x114 x9.2), .cells [.fn (.func 76) [] [.ref 0 0, .ref 1 0, .ref 3 0, .ref 4 0]], .cells [.fn (.func 75) [] []]]] (ct76 hx9) ?_
    refine awp_seq (g0 [2, 3, 7, 8, 9, 28, 29, 36] [] [(2, .sl 1 6 0 c6.2.2.2.2.length), (3, vi x3.1.many), (7, .ref 4 0), (8, .ref 5 0), (9, vi x9.1.next), (28, vi (p_m.Borders.length : Int)), (29, vi c6.1), (36, vb (decide (x9.1.next < 0)))] [mc p_m, .cells [.fn (.func 75) [] []], .map (mpo112x114 x9.2), .cells [.mp 2], .cells [.fn (.func 76) [] [.ref 0 0, .ref 3 0, .ref 4 0, .ref 1 0]], .cells [vi c6.2.2.1, vi c6.2.2.2.1], .data (c6.2.2.2.2.flatMap cel3)] ?_)
    refine awp_cond (b := (decide (x9.1.next < 0))) (by kernel_rfl) (fun hb10 => ?_) (fun hb10 => ?_)
    ·rw [if_pos hb10] at h
     refine g0 [2, 3, 4] [] [(2, .d dnil), (3, vi 0), (4, vi 9)] [mc p_m, .cells [.fn (.func 75) [] []], .map (mpo112x114 x9.2), .cells [.mp 2], .cells [.fn (.func 76) [] [.ref 0 0, .ref 3 0, .ref 4 0, .ref 1 0]], .cells [vi c6.2.2.1, vi c6.2.2.2.1], .data (c6.2.2.2.2.flatMap cel3)] ?_
     obtain rfl := Option.some.inj h
     refine gw 7 [2, 3, 4] [(2, .d dnil), (3, vi 0), (4, vi 9)] [mc p_m, .cells [.fn (.func 75) [] []], .map (mpo112x114 x9.2), .cells [.mp 2], .cells [.fn (.func 76) [] [.ref 0 0, .ref 3 0, .ref 4 0, .ref 1 0]], .cells [vi c6.2.2.1, vi c6.2.2.2.1], .data (c6.2.2.2.2.flatMap cel3)] ?_
     refine awp_laxT 2 _ (L3 ([] : List Int)) _ (by kernel_rfl) (.nil (e := 1)) rfl ?_
     refine gw 7 [2, 3, 4] [(2, .d (L3 ([] : List Int))), (3, vi 0), (4, vi 9)] [mc p_m, .cells [.fn (.func 75) [] []], .map (mpo112x114 x9.2), .cells [.mp 2], .cells [.fn (.func 76) [] [.ref 0 0, .ref 3 0, .ref 4 0, .ref 1 0]], .cells [vi c6.2.2.1, vi c6.2.2.2.1], .data (c6.2.2.2.2.flatMap cel3)] ?_
     exact awp_ret (gs [] [2, 3, 4] OutQ.ret)
    ·rw [if_neg (ntrue hb10)] at h
     refine awp_skip ?_
     show awp ..
     obtain ⟨x11, hx11, h⟩ := ob h
     refine gr [2, 3, 7, 8, 9, 28, 29] [.no, .no, .no, .list (c6.2.2.2.2 ++ ([x9.1.next] : List Int)).length ((c6.2.2.2.2 ++ ([x9.1.next] : List Int)).flatMap cel3)] [(2, .sl 1 6 0 (c6.2.2.2.2 ++ ([x9.1.next] : List Int)).length), (3, vi x3.1.many), (7, .ref 4 0), (8, .ref 5 0), (9, vi x9.1.next), (28, vi (p_m.Borders.length : Int)), (29, vi c6.1)] [mc p_m, .cells [.fn (.func 75) [] []], .map (mpo112x114 x9.2), .cells [.mp 2], .cells [.fn (.func 76) [] [.ref 0 0, .ref 3 0, .ref 4 0, .ref 1 0]], .cells [vi c6.2.2.1, vi c6.2.2.2.1], .data ((c6.2.2.2.2 ++ ([x9.1.next] : List Int)).flatMap cel3)] [AppendOk ((c6.2.2.2.2.flatMap cel3).map .d) c6.2.2.2.2.length ([x9.1.next] : List Int).length (c6.2.2.2.2 ++ ([x9.1.next] : List Int)).length 1 8 (([x9.1.next] : List Int).flatMap cel3) ((c6.2.2.2.2 ++ ([x9.1.next] : List Int)).flatMap cel3)] (appendOk cel3_len (need_of hx11)) ?_
     refine x0 [2, 3, 7, 8, 28, 29] [] [(2, .sl 1 6 0 (c6.2.2.2.2 ++ ([x9.1.next] : List Int)).length), (3, vi x3.1.many), (7, .ref 4 0), (8, .ref 5 0), (28, vi (p_m.Borders.length : Int)), (29, vi c6.1)] [mc p_m, .cells [.fn (.func 75) [] []], .map (mpo112x114 x9.2), .cells [.mp 2], .cells [.fn (.func 76) [] [.ref 0 0, .ref 3 0, .ref 4 0, .ref 1 0]], .cells [vi (w64 (c6.2.2.1 + 1)), vi x9.1.next], .data ((c6.2.2.2.2 ++ ([x9.1.next] : List Int)).flatMap cel3)] ?_
     show awp ..
     refine x0 [2, 3, 7, 8, 28, 29] [] [(2, .sl 1 6 0 (c6.2.2.2.2 ++ ([x9.1.next] : List Int)).length), (3, vi x3.1.many), (7, .ref 4 0), (8, .ref 5 0), (28, vi (p_m.Borders.length : Int)), (29, vi (w64 (c6.1 + 1)))] [mc p_m, .cells [.fn (.func 75) [] []], .map (mpo112x114 x9.2), .cells [.mp 2], .cells [.fn (.func 76) [] [.ref 0 0, .ref 3 0, .ref 4 0, .ref 1 0]], .cells [vi (w64 (c6.2.2.1 + 1)), vi x9.1.next], .data ((c6.2.2.2.2 ++ ([x9.1.next] : List Int)).flatMap cel3)] ?_
     exact gn 7 [2, 3, 7, 8, 28, 29] (hrn7 ((w64 (c6.1 + 1)), x9.2, (w64 (c6.2.2.1 + 1)), x9.1.next, (c6.2.2.2.2 ++ ([x9.1.next] : List Int))) h)
   ·rw [if_neg (ntrue hb8)] at h
    refine awp_exit ?_
    obtain rfl := Option.some.inj h
    exact gs [0, 1, 2, 3, 4, 5, 6] [2, 3] OutQ.norm
  ·intro e T H hq
   cases o5 with
   | inl ro5 =>
    obtain ⟨rfl, rfl, rfl⟩ := hq
    rw [outK_inl] at h
    obtain rfl := Option.some.inj h
    exact gm
   | inr so5 =>
    obtain ⟨rfl, rfl, rfl⟩ := hq
    rw [outK_inr] at h
    show awp ..
    refine g0 [2, 3, 4] [] [(2, .sl 1 6 0 so5.2.2.2.length), (3, vi x3.1.many), (4, vi 0)] [mc p_m, .cells [.fn (.func 75) [] []], .map (mpo112x114 so5.1), .cells [.mp 2], .cells [.fn (.func 76) [] [.ref 0 0, .ref 3 0, .ref 4 0, .ref 1 0]], .cells [vi so5.2.1, vi so5.2.2.1], .data (so5.2.2.2.flatMap cel3)] ?_
    obtain rfl := Option.some.inj h
    refine gw 7 [2, 3, 4] [(2, .sl 1 6 0 so5.2.2.2.length), (3, vi x3.1.many), (4, vi 0)] [mc p_m, .cells [.fn (.func 75) [] []], .map (mpo112x114 so5.1), .cells [.mp 2], .cells [.fn (.func 76) [] [.ref 0 0, .ref 3 0, .ref 4 0, .ref 1 0]], .cells [vi so5.2.1, vi so5.2.2.1], .data (so5.2.2.2.flatMap cel3)] ?_
    refine awp_freeze 2 6 (so5.2.2.2.flatMap cel3) (.sl 1 6 0 so5.2.2.2.length) (.d (L3 so5.2.2.2)) _ _ (ps := [(so5.2.2.2.flatMap cel3).length = so5.2.2.2.length * 1]) (by kernel_rfl) (by kernel_rfl) (by kernel_rfl) (flatMap_len cel3 1 cel3_len so5.2.2.2) rfl rfl ?_
    refine gw 7 [2, 3, 4] [(2, .d (L3 so5.2.2.2)), (3, vi x3.1.many), (4, vi 0)] [mc p_m, .cells [.fn (.func 75) [] []], .map (mpo112x114 so5.1), .cells [.mp 2], .cells [.fn (.func 76) [] [.ref 0 0, .ref 3 0, .ref 4 0, .ref 1 0]], .cells [vi so5.2.1, vi so5.2.2.1], .data (([] : List Int).flatMap cel3)] ?_
    exact awp_ret gm
theorem ct23 {fuel : Nat}  {p_a : (List S_api_Span)} {p_b : (List S_api_Span)} {res : Bool} (h : F23 fuel p_a p_b = some res) : PCall Try.prog 23 [(L60 p_a), (L60 p_b)] (vb res) := by
 refine PCall.of_awp tt_ok (N := 26) Try.func23 rfl (by kernel_rfl) rfl (Nat.le_of_ble_eq_true rfl) rfl ?_
 unfold F23 at h
 refine g0 [0, 1] [] [(0, .d (L60 p_a)), (1, .d (L60 p_b))] [] ?_
 refine awp_seq (g0 [0, 1, 10] [] [(0, .d (L60 p_a)), (1, .d (L60 p_b)), (10, vb ((p_a.length : Int) != (p_b.length : Int)))] [] ?_)
 refine awp_cond (b := ((p_a.length : Int) != (p_b.length : Int))) (by kernel_rfl) (fun hb1 => ?_) (fun hb1 => ?_)
 ·rw [if_pos hb1] at h
  refine g0 [4] [] [(4, vb false)] [] ?_
  obtain rfl := Option.some.inj h
  refine gw 0 [4] [(4, vb false)] [] ?_
  exact awp_ret gm
 ·rw [if_neg (ntrue hb1)] at h
  refine awp_skip ?_
  show awp ..
  refine awp_seq (g0 [0, 1, 5] [] [(0, .d (L60 p_a)), (1, .d (L60 p_b)), (5, vi 0)] [] ?_)
  obtain ⟨o2, ho2, h⟩ := ob h
  refine awp_cut1 (OutQ (fun (ro2 : Bool) => [(4, vb ro2)]) (fun (ro2 : Bool) => []) (fun (so2 : Unit) => []) (fun (so2 : Unit) => []) o2) ?_ ?_
  ·clear h
   have h := ho2
   clear ho2
   refine awp_selQ (gw 0 [0, 1, 5] [(0, .d (L60 p_a)), (1, .d (L60 p_b)), (5, vi 0)] [] ?_)
   refine awp_block (awp_loop (n := fuel) ?_)
   refine awpN_ind (fun n (c3 : Int) => F23L1 p_a p_b n c3) o2 (fun (c3 : Int) => [(0, .d (L60 p_a)), (1, .d (L60 p_b)), (5, vi c3)]) (fun (c3 : Int) => []) (fun _ => rfl) ?_ fuel 0 h
   clear h
   intro n4 c3 h hrn4
   change F23L1 p_a p_b (n4 + 1) c3 = some o2 at h
   rw [F23L1] at h
   refine awp_seq (g0 [0, 1, 5, 14] [] [(0, .d (L60 p_a)), (1, .d (L60 p_b)), (5, vi c3), (14, vb (decide (c3 < (p_a.length : Int))))] [] ?_)
   refine awp_cond (b := (decide (c3 < (p_a.length : Int)))) (by kernel_rfl) (fun hb5 => ?_) (fun hb5 => ?_)
   ·rw [if_pos hb5] at h
    refine awp_skip ?_
    show awp ..
    refine awp_seq (awp_block ?_)
    obtain ⟨x6, hx6, h⟩ := ob h
    obtain ⟨x7, hx7, h⟩ := ob h
    refine awp_sdraw tt_ok mixed (ks := [0, 1, 5, 25]) (hs := [.no, .no, .cells (cel60 x6), .no, .no, .no, .cells (cel60 x7)]) 8 [0, 1, 5, 20, 24, 25] [(0, .d (L60 p_a)), (1, .d (L60 p_b)), (5, vi c3), (25, vb (!((x6.Lo == x7.Lo) && (x6.Hi == x7.Hi))))] [] [IX60 p_a c3 x6, IX60 p_b c3 x7] (by kernel_rfl) (And.intro (idxOk cel60_len hx6) (idxOk cel60_len hx7)) ?_
    refine awp_cond (b := (!((x6.Lo == x7.Lo) && (x6.Hi == x7.Hi)))) (by kernel_rfl) (fun hb8 => ?_) (fun hb8 => ?_)
    ·rw [if_pos hb8] at h
     refine g0 [4] [] [(4, vb false)] [] ?_
     obtain rfl := Option.some.inj h
     refine gw 0 [4] [(4, vb false)] [] ?_
     exact awp_ret (gs [] [4] OutQ.ret)
    ·rw [if_neg (ntrue hb8)] at h
     refine awp_skip ?_
     show awp ..
     refine x0 [0, 1, 5] [] [(0, .d (L60 p_a)), (1, .d (L60 p_b)), (5, vi (w64 (c3 + 1)))] [] ?_
     exact gn 0 [0, 1, 5] (hrn4 (w64 (c3 + 1)) h)
   ·rw [if_neg (ntrue hb5)] at h
    refine awp_exit ?_
    obtain rfl := Option.some.inj h
    exact gs [] [] OutQ.norm
  ·intro e T H hq
   cases o2 with
   | inl ro2 =>
    obtain ⟨rfl, rfl, rfl⟩ := hq
    rw [outK_inl] at h
    obtain rfl := Option.some.inj h
    exact gm
   | inr so2 =>
    obtain ⟨rfl, rfl, rfl⟩ := hq
    rw [outK_inr] at h
    show awp ..
    refine g0 [4] [] [(4, vb true)] [] ?_
    obtain rfl := Option.some.inj h
    refine gw 0 [4] [(4, vb true)] [] ?_
    exact awp_ret gm
theorem ct26 {fuel : Nat}  {p_a : (List Int)} {p_b : (List Int)} {res : Bool} (h : F26 fuel p_a p_b = some res) : PCall Try.prog 26 [(L3 p_a), (L3 p_b)] (vb res) := by
 refine PCall.of_awp tt_ok (N := 26) Try.func26 rfl (by kernel_rfl) rfl (Nat.le_of_ble_eq_true rfl) rfl ?_
 unfold F26 at h
 refine g0 [0, 1] [] [(0, .d (L3 p_a)), (1, .d (L3 p_b))] [] ?_
 refine awp_seq (g0 [0, 1, 10] [] [(0, .d (L3 p_a)), (1, .d (L3 p_b)), (10, vb ((p_a.length : Int) != (p_b.length : Int)))] [] ?_)
 refine awp_cond (b := ((p_a.length : Int) != (p_b.length : Int))) (by kernel_rfl) (fun hb1 => ?_) (fun hb1 => ?_)
 ·rw [if_pos hb1] at h
  refine g0 [4] [] [(4, vb false)] [] ?_
  obtain rfl := Option.some.inj h
  refine gw 0 [4] [(4, vb false)] [] ?_
  exact awp_ret gm
 ·rw [if_neg (ntrue hb1)] at h
  refine awp_skip ?_
  show awp ..
  refine awp_seq (g0 [0, 1, 5] [] [(0, .d (L3 p_a)), (1, .d (L3 p_b)), (5, vi 0)] [] ?_)
  obtain ⟨o2, ho2, h⟩ := ob h
  refine awp_cut1 (OutQ (fun (ro2 : Bool) => [(4, vb ro2)]) (fun (ro2 : Bool) => []) (fun (so2 : Unit) => []) (fun (so2 : Unit) => []) o2) ?_ ?_
  ·clear h
   have h := ho2
   clear ho2
   refine awp_selQ (gw 0 [0, 1, 5] [(0, .d (L3 p_a)), (1, .d (L3 p_b)), (5, vi 0)] [] ?_)
   refine awp_block (awp_loop (n := fuel) ?_)
   refine awpN_ind (fun n (c3 : Int) => F26L1 p_a p_b n c3) o2 (fun (c3 : Int) => [(0, .d (L3 p_a)), (1, .d (L3 p_b)), (5, vi c3)]) (fun (c3 : Int) => []) (fun _ => rfl) ?_ fuel 0 h
   clear h
   intro n4 c3 h hrn4
   change F26L1 p_a p_b (n4 + 1) c3 = some o2 at h
   rw [F26L1] at h
   refine awp_seq (g0 [0, 1, 5, 14] [] [(0, .d (L3 p_a)), (1, .d (L3 p_b)), (5, vi c3), (14, vb (decide (c3 < (p_a.length : Int))))] [] ?_)
   refine awp_cond (b := (decide (c3 < (p_a.length : Int)))) (by kernel_rfl) (fun hb5 => ?_) (fun hb5 => ?_)
   ·rw [if_pos hb5] at h
    refine awp_skip ?_
    show awp ..
    refine awp_seq (awp_block ?_)
    obtain ⟨x6, hx6, h⟩ := ob h
    obtain ⟨x7, hx7, h⟩ := ob h
    refine awp_sdraw tt_ok mixed (ks := [0, 1, 5, 25]) (hs := [.no, .no, .cells (cel3 x6), .no, .no, .no, .cells (cel3 x7)]) 8 [0, 1, 5, 20, 24, 25] [(0, .d (L3 p_a)), (1, .d (L3 p_b)), (5, vi c3), (25, vb (x6 != x7))] [] [IX3 p_a c3 x6, IX3 p_b c3 x7] (by kernel_rfl) (And.intro (idxOk cel3_len hx6) (idxOk cel3_len hx7)) ?_
    refine awp_cond (b := (x6 != x7)) (by kernel_rfl) (fun hb8 => ?_) (fun hb8 => ?_)
    ·rw [if_pos hb8] at h
     refine g0 [4] [] [(4, vb false)] [] ?_
     obtain rfl := Option.some.inj h
     refine gw 0 [4] [(4, vb false)] [] ?_
     exact awp_ret (gs [] [4] OutQ.ret)
    ·rw [if_neg (ntrue hb8)] at h
     refine awp_skip ?_
     show awp ..
     refine x0 [0, 1, 5] [] [(0, .d (L3 p_a)), (1, .d (L3 p_b)), (5, vi (w64 (c3 + 1)))] [] ?_
     exact gn 0 [0, 1, 5] (hrn4 (w64 (c3 + 1)) h)
   ·rw [if_neg (ntrue hb5)] at h
    refine awp_exit ?_
    obtain rfl := Option.some.inj h
    exact gs [] [] OutQ.norm
  ·intro e T H hq
   cases o2 with
   | inl ro2 =>
    obtain ⟨rfl, rfl, rfl⟩ := hq
    rw [outK_inl] at h
    obtain rfl := Option.some.inj h
    exact gm
   | inr so2 =>
    obtain ⟨rfl, rfl, rfl⟩ := hq
    rw [outK_inr] at h
    show awp ..
    refine g0 [4] [] [(4, vb true)] [] ?_
    obtain rfl := Option.some.inj h
    refine gw 0 [4] [(4, vb true)] [] ?_
    exact awp_ret gm
theorem ct29 {fuel : Nat}  {p_a : (List S_api_ClPair)} {p_b : (List S_api_ClPair)} {res : Bool} (h : F29 fuel p_a p_b = some res) : PCall Try.prog 29 [(L51 p_a), (L51 p_b)] (vb res) := by
 refine PCall.of_awp tt_ok (N := 26) Try.func29 rfl (by kernel_rfl) rfl (Nat.le_of_ble_eq_true rfl) rfl ?_
 unfold F29 at h
 refine g0 [0, 1] [] [(0, .d (L51 p_a)), (1, .d (L51 p_b))] [] ?_
 refine awp_seq (g0 [0, 1, 10] [] [(0, .d (L51 p_a)), (1, .d (L51 p_b)), (10, vb ((p_a.length : Int) != (p_b.length : Int)))] [] ?_)
 refine awp_cond (b := ((p_a.length : Int) != (p_b.length : Int))) (by kernel_rfl) (fun hb1 => ?_) (fun hb1 => ?_)
 ·rw [if_pos hb1] at h
  refine g0 [4] [] [(4, vb false)] [] ?_
  obtain rfl := Option.some.inj h
  refine gw 0 [4] [(4, vb false)] [] ?_
  exact awp_ret gm
 ·rw [if_neg (ntrue hb1)] at h
  refine awp_skip ?_
  show awp ..
  refine awp_seq (g0 [0, 1, 5] [] [(0, .d (L51 p_a)), (1, .d (L51 p_b)), (5, vi 0)] [] ?_)
  obtain ⟨o2, ho2, h⟩ := ob h
  refine awp_cut1 (OutQ (fun (ro2 : Bool) => [(4, vb ro2)]) (fun (ro2 : Bool) => []) (fun (so2 : Unit) => []) (fun (so2 : Unit) => []) o2) ?_ ?_
  ·clear h
   have h := ho2
   clear ho2
   refine awp_selQ (gw 0 [0, 1, 5] [(0, .d (L51 p_a)), (1, .d (L51 p_b)), (5, vi 0)] [] ?_)
   refine awp_block (awp_loop (n := fuel) ?_)
   refine awpN_ind (fun n (c3 : Int) => F29L1 p_a p_b n c3) o2 (fun (c3 : Int) => [(0, .d (L51 p_a)), (1, .d (L51 p_b)), (5, vi c3)]) (fun (c3 : Int) => []) (fun _ => rfl) ?_ fuel 0 h
   clear h
   intro n4 c3 h hrn4
   change F29L1 p_a p_b (n4 + 1) c3 = some o2 at h
   rw [F29L1] at h
   refine awp_seq (g0 [0, 1, 5, 14] [] [(0, .d (L51 p_a)), (1, .d (L51 p_b)), (5, vi c3), (14, vb (decide (c3 < (p_a.length : Int))))] [] ?_)
   refine awp_cond (b := (decide (c3 < (p_a.length : Int)))) (by kernel_rfl) (fun hb5 => ?_) (fun hb5 => ?_)
   ·rw [if_pos hb5] at h
    refine awp_skip ?_
    show awp ..
    refine awp_seq (awp_block ?_)
    obtain ⟨x6, hx6, h⟩ := ob h
    obtain ⟨x7, hx7, h⟩ := ob h
    refine awp_sdraw tt_ok mixed (ks := [0, 1, 5, 25]) (hs := [.no, .no, .cells (cel51 x6), .no, .no, .no, .cells (cel51 x7)]) 8 [0, 1, 5, 20, 24, 25] [(0, .d (L51 p_a)), (1, .d (L51 p_b)), (5, vi c3), (25, vb (!((x6.A == x7.A) && (x6.B == x7.B))))] [] [IX51 p_a c3 x6, IX51 p_b c3 x7] (by kernel_rfl) (And.intro (idxOk cel51_len hx6) (idxOk cel51_len hx7)) ?_
    refine awp_cond (b := (!((x6.A == x7.A) && (x6.B == x7.B)))) (by kernel_rfl) (fun hb8 => ?_) (fun hb8 => ?_)
    ·rw [if_pos hb8] at h
     refine g0 [4] [] [(4, vb false)] [] ?_
     obtain rfl := Option.some.inj h
     refine gw 0 [4] [(4, vb false)] [] ?_
     exact awp_ret (gs [] [4] OutQ.ret)
    ·rw [if_neg (ntrue hb8)] at h
     refine awp_skip ?_
     show awp ..
     refine x0 [0, 1, 5] [] [(0, .d (L51 p_a)), (1, .d (L51 p_b)), (5, vi (w64 (c3 + 1)))] [] ?_
     exact gn 0 [0, 1, 5] (hrn4 (w64 (c3 + 1)) h)
   ·rw [if_neg (ntrue hb5)] at h
    refine awp_exit ?_
    obtain rfl := Option.some.inj h
    exact gs [] [] OutQ.norm
  ·intro e T H hq
   cases o2 with
   | inl ro2 =>
    obtain ⟨rfl, rfl, rfl⟩ := hq
    rw [outK_inl] at h
    obtain rfl := Option.some.inj h
    exact gm
   | inr so2 =>
    obtain ⟨rfl, rfl, rfl⟩ := hq
    rw [outK_inr] at h
    show awp ..
    refine g0 [4] [] [(4, vb true)] [] ?_
    obtain rfl := Option.some.inj h
    refine gw 0 [4] [(4, vb true)] [] ?_
    exact awp_ret gm
theorem ct30 {fuel : Nat}   {res : Bool} (h : F30 fuel = some res) : PCall Try.prog 30 [] (vb res) := by
 refine PCall.of_awp tt_ok (N := 138) Try.func30 rfl (by kernel_rfl) rfl (Nat.le_of_ble_eq_true rfl) rfl ?_
 unfold F30 at h
 refine g0 [] [] [] [] ?_
 obtain ⟨x1, hx1, h⟩ := ob h
 refine gr [1, 2] [.call [(di 3)] (.d (ma x1))] [(1, .ref 0 0), (2, .d (L3 ([100, 200] : List Int)))] [mc x1] [PCall Try.prog 37 [(di 3)] (.d (ma x1))] (ct37 hx1) ?_
 obtain ⟨x2, hx2, h⟩ := ob h
 refine gr [1, 2, 3, 4] [.no, .no, .call [(ma x1), (L3 ([100, 200] : List Int))] (.tup [.d (L60 x2.1), vi x2.2])] [(1, .ref 0 0), (2, .d (L3 ([100, 200] : List Int))), (3, .d (L60 x2.1)), (4, vi x2.2)] [mc x1] [PCall Try.prog 21 [(ma x1), (L3 ([100, 200] : List Int))] (.tup [.d (L60 x2.1), vi x2.2])] (ct21 hx2) ?_
 obtain ⟨x3, hx3, h⟩ := ob h
 refine gr [1, 2, 3, 4, 5, 6] [.no, .no, .call [(ma x1), (L3 ([100, 200] : List Int))] (.tup [.d (L3 x3.1), vi x3.2])] [(1, .ref 0 0), (2, .d (L3 ([100, 200] : List Int))), (3, .d (L60 x2.1)), (4, vi x2.2), (5, .d (L3 x3.1)), (6, vi x3.2)] [mc x1] [PCall Try.prog 24 [(ma x1), (L3 ([100, 200] : List Int))] (.tup [.d (L3 x3.1), vi x3.2])] (ct24 hx3) ?_
 obtain ⟨x4, hx4, h⟩ := ob h
 refine gr [1, 2, 3, 4, 5, 6, 7, 8] [.no, .no, .call [(ma x1), (L3 ([100, 200] : List Int))] (.tup [.d (L51 x4.1), vi x4.2])] [(1, .ref 0 0), (2, .d (L3 ([100, 200] : List Int))), (3, .d (L60 x2.1)), (4, vi x2.2), (5, .d (L3 x3.1)), (6, vi x3.2), (7, .d (L51 x4.1)), (8, vi x4.2)] [mc x1] [PCall Try.prog 27 [(ma x1), (L3 ([100, 200] : List Int))] (.tup [.d (L51 x4.1), vi x4.2])] (ct27 hx4) ?_
 obtain ⟨x5, hx5, h⟩ := ob h
 refine gr [1, 2, 3, 4, 5, 6, 7, 8, 9, 10, 11] [.no, .no, .call [(ma x1), (L3 ([100, 200] : List Int))] (.tup [.d (L3 x5.1), vi x5.2.1, vi x5.2.2])] [(1, .ref 0 0), (2, .d (L3 ([100, 200] : List Int))), (3, .d (L60 x2.1)), (4, vi x2.2), (5, .d (L3 x3.1)), (6, vi x3.2), (7, .d (L51 x4.1)), (8, vi x4.2), (9, .d (L3 x5.1)), (10, vi x5.2.1), (11, vi x5.2.2)] [mc x1] [PCall Try.prog 31 [(ma x1), (L3 ([100, 200] : List Int))] (.tup [.d (L3 x5.1), vi x5.2.1, vi x5.2.2])] (ct31 hx5) ?_
 obtain ⟨x6, hx6, h⟩ := ob h
 refine gr [1, 2, 3, 4, 5, 6, 7, 8, 9, 10, 11, 12, 13] [.no, .no, .no, .call [(ma x1), (L3 ([100, 200] : List Int)), (L3 ([0, 1, 2] : List Int))] (.tup [.d (L3 x6.1), vi x6.2])] [(1, .ref 0 0), (2, .d (L3 ([100, 200] : List Int))), (3, .d (L60 x2.1)), (4, vi x2.2), (5, .d (L3 x3.1)), (6, vi x3.2), (7, .d (L51 x4.1)), (8, vi x4.2), (9, .d (L3 x5.1)), (10, vi x5.2.1), (11, vi x5.2.2), (12, .d (L3 x6.1)), (13, vi x6.2)] [mc x1] [PCall Try.prog 33 [(ma x1), (L3 ([100, 200] : List Int)), (L3 ([0, 1, 2] : List Int))] (.tup [.d (L3 x6.1), vi x6.2])] (ct33 hx6) ?_
 obtain ⟨x7, hx7, h⟩ := ob h
 refine gr [2, 3, 4, 5, 6, 7, 8, 9, 10, 11, 12, 13, 14, 15, 16] [.no, .call [(ma x1)] (.tup [.d (L3 x7.1), vi x7.2.1, vi x7.2.2])] [(2, .d (L3 ([100, 200] : List Int))), (3, .d (L60 x2.1)), (4, vi x2.2), (5, .d (L3 x3.1)), (6, vi x3.2), (7, .d (L51 x4.1)), (8, vi x4.2), (9, .d (L3 x5.1)), (10, vi x5.2.1), (11, vi x5.2.2), (12, .d (L3 x6.1)), (13, vi x6.2), (14, .d (L3 x7.1)), (15, vi x7.2.1), (16, vi x7.2.2)] [mc x1] [PCall Try.prog 35 [(ma x1)] (.tup [.d (L3 x7.1), vi x7.2.1, vi x7.2.2])] (ct35 hx7) ?_
 obtain ⟨x8, hx8, h⟩ := ob h
 obtain ⟨x9, hx9, h⟩ := ob h
 refine gr [3, 4, 5, 6, 7, 8, 9, 10, 11, 12, 13, 14, 15, 16, 19] [.call [(di 2)] (.d (ma x8)), .no, .call [(ma x8), (L3 ([100, 200] : List Int))] (.tup [.d (L3 x9.1), vi x9.2.1, vi x9.2.2])] [(3, .d (L60 x2.1)), (4, vi x2.2), (5, .d (L3 x3.1)), (6, vi x3.2), (7, .d (L51 x4.1)), (8, vi x4.2), (9, .d (L3 x5.1)), (10, vi x5.2.1), (11, vi x5.2.2), (12, .d (L3 x6.1)), (13, vi x6.2), (14, .d (L3 x7.1)), (15, vi x7.2.1), (16, vi x7.2.2), (19, vi x9.2.2)] [mc x1] [PCall Try.prog 37 [(di 2)] (.d (ma x8)), PCall Try.prog 31 [(ma x8), (L3 ([100, 200] : List Int))] (.tup [.d (L3 x9.1), vi x9.2.1, vi x9.2.2])] (And.intro (ct37 hx8) (ct31 hx9)) ?_
 obtain ⟨x10, hx10, h⟩ := ob h
 obtain ⟨x11, hx11, h⟩ := ob h
 obtain ⟨x12, hx12, h⟩ := ob h
 obtain ⟨x13, hx13, h⟩ := ob h
 obtain ⟨x14, hx14, h⟩ := ob h
 obtain ⟨x15, hx15, h⟩ := ob h
 obtain ⟨x16, hx16, h⟩ := ob h
 obtain ⟨x17, hx17, h⟩ := ob h
 obtain ⟨x18, hx18, h⟩ := ob h
 obtain ⟨x19, hx19, h⟩ := ob h
 obtain ⟨x20, hx20, h⟩ := ob h
 obtain ⟨x21, hx21, h⟩ := ob h
 obtain ⟨x22, hx22, h⟩ := ob h
 refine gr [0] [.no, .no, .no, .no, .no, .no, .no, .no, .no, .no, .no, .no, .no, .no, .no, .no, .no, .no, .no, .no, .no, .no, .no, .no, .no, .no, .no, .no, .call [(di 0), (di 0)] (.d (.agg [(di x10.Lo), (di x10.Hi)])), .call [(di 0), (di 1)] (.d (.agg [(di x11.Lo), (di x11.Hi)])), .call [(di 1), (di 1)] (.d (.agg [(di x12.Lo), (di x12.Hi)])), .call [(di 1), (di 2)] (.d (.agg [(di x13.Lo), (di x13.Hi)])), .call [(di 2), (di 2)] (.d (.agg [(di x14.Lo), (di x14.Hi)])), .no, .call [(L60 x2.1), (L60 ([(⟨x10.Lo, x10.Hi⟩ : S_api_Span), (⟨x11.Lo, x11.Hi⟩ : S_api_Span), (⟨x12.Lo, x12.Hi⟩ : S_api_Span), (⟨x13.Lo, x13.Hi⟩ : S_api_Span), (⟨x14.Lo, x14.Hi⟩ : S_api_Span)] : List S_api_Span))] (vb x15), .no, .no, .no, .no, .call [(L3 x3.1), (L3 ([1, 3] : List Int))] (vb x16), .no, .no, .no, .call [(di 0), (di 1)] (.d (.agg [(di x17.A), (di x17.B)])), .call [(di 1), (di 2)] (.d (.agg [(di x18.A), (di x18.B)])), .no, .call [(L51 x4.1), (L51 ([(⟨x17.A, x17.B⟩ : S_api_ClPair), (⟨x18.A, x18.B⟩ : S_api_ClPair)] : List S_api_ClPair))] (vb x19), .no, .no, .no, .no, .call [(L3 x5.1), (L3 ([0, 2, 0] : List Int))] (vb x20), .no, .no, .no, .no, .no, .no, .no, .no, .call [(L3 x6.1), (L3 ([0, 1] : List Int))] (vb x21), .no, .no, .no, .no, .call [(L3 x7.1), (L3 ([104, 203] : List Int))] (vb x22)] [(0, vb (cond (cond (cond (cond (cond (cond (cond (cond (cond (cond (cond (cond (cond (cond (x2.2 == 0) (x3.2 == 0) false) (x4.2 == 0) false) (x5.2.2 == 0) false) (x6.2 == 0) false) (x7.2.2 == 0) false) (x9.2.2 == 9) false) x15 false) x16 false) x19 false) x20 false) (x5.2.1 == 2) false) x21 false) x22 false) (x7.2.1 == 0) false))] [mc x1] [((x2.2 == 0) = true → (x2.2 == 0) = true), ((x2.2 == 0) = true → (x2.2 == 0) = true), ((cond (x2.2 == 0) (x3.2 == 0) false) = true → (cond (x2.2 == 0) (x3.2 == 0) false) = true), ((cond (x2.2 == 0) (x3.2 == 0) false) = true → (cond (x2.2 == 0) (x3.2 == 0) false) = true), ((cond (cond (x2.2 == 0) (x3.2 == 0) false) (x4.2 == 0) false) = true → (cond (cond (x2.2 == 0) (x3.2 == 0) false) (x4.2 == 0) false) = true), ((cond (cond (x2.2 == 0) (x3.2 == 0) false) (x4.2 == 0) false) = true → (cond (cond (x2.2 == 0) (x3.2 == 0) false) (x4.2 == 0) false) = true), ((cond (cond (cond (x2.2 == 0) (x3.2 == 0) false) (x4.2 == 0) false) (x5.2.2 == 0) false) = true → (cond (cond (cond (x2.2 == 0) (x3.2 == 0) false) (x4.2 == 0) false) (x5.2.2 == 0) false) = true), ((cond (cond (cond (x2.2 == 0) (x3.2 == 0) false) (x4.2 == 0) false) (x5.2.2 == 0) false) = true → (cond (cond (cond (x2.2 == 0) (x3.2 == 0) false) (x4.2 == 0) false) (x5.2.2 == 0) false) = true), ((cond (cond (cond (cond (x2.2 == 0) (x3.2 == 0) false) (x4.2 == 0) false) (x5.2.2 == 0) false) (x6.2 == 0) false) = true → (cond (cond (cond (cond (x2.2 == 0) (x3.2 == 0) false) (x4.2 == 0) false) (x5.2.2 == 0) false) (x6.2 == 0) false) = true), ((cond (cond (cond (cond (x2.2 == 0) (x3.2 == 0) false) (x4.2 == 0) false) (x5.2.2 == 0) false) (x6.2 == 0) false) = true → (cond (cond (cond (cond (x2.2 == 0) (x3.2 == 0) false) (x4.2 == 0) false) (x5.2.2 == 0) false) (x6.2 == 0) false) = true), ((cond (cond (cond (cond (cond (x2.2 == 0) (x3.2 == 0) false) (x4.2 == 0) false) (x5.2.2 == 0) false) (x6.2 == 0) false) (x7.2.2 == 0) false) = true → (cond (cond (cond (cond (cond (x2.2 == 0) (x3.2 == 0) false) (x4.2 == 0) false) (x5.2.2 == 0) false) (x6.2 == 0) false) (x7.2.2 == 0) false) = true), ((cond (cond (cond (cond (cond (x2.2 == 0) (x3.2 == 0) false) (x4.2 == 0) false) (x5.2.2 == 0) false) (x6.2 == 0) false) (x7.2.2 == 0) false) = true → (cond (cond (cond (cond (cond (x2.2 == 0) (x3.2 == 0) false) (x4.2 == 0) false) (x5.2.2 == 0) false) (x6.2 == 0) false) (x7.2.2 == 0) false) = true), ((cond (cond (cond (cond (cond (cond (x2.2 == 0) (x3.2 == 0) false) (x4.2 == 0) false) (x5.2.2 == 0) false) (x6.2 == 0) false) (x7.2.2 == 0) false) (x9.2.2 == 9) false) = true → PCall Try.prog 47 [(di 0), (di 0)] (.d (.agg [(di x10.Lo), (di x10.Hi)]))), ((cond (cond (cond (cond (cond (cond (x2.2 == 0) (x3.2 == 0) false) (x4.2 == 0) false) (x5.2.2 == 0) false) (x6.2 == 0) false) (x7.2.2 == 0) false) (x9.2.2 == 9) false) = true → PCall Try.prog 47 [(di 0), (di 1)] (.d (.agg [(di x11.Lo), (di x11.Hi)]))), ((cond (cond (cond (cond (cond (cond (x2.2 == 0) (x3.2 == 0) false) (x4.2 == 0) false) (x5.2.2 == 0) false) (x6.2 == 0) false) (x7.2.2 == 0) false) (x9.2.2 == 9) false) = true → PCall Try.prog 47 [(di 1), (di 1)] (.d (.agg [(di x12.Lo), (di x12.Hi)]))), ((cond (cond (cond (cond (cond (cond (x2.2 == 0) (x3.2 == 0) false) (x4.2 == 0) false) (x5.2.2 == 0) false) (x6.2 == 0) false) (x7.2.2 == 0) false) (x9.2.2 == 9) false) = true → PCall Try.prog 47 [(di 1), (di 2)] (.d (.agg [(di x13.Lo), (di x13.Hi)]))), ((cond (cond (cond (cond (cond (cond (x2.2 == 0) (x3.2 == 0) false) (x4.2 == 0) false) (x5.2.2 == 0) false) (x6.2 == 0) false) (x7.2.2 == 0) false) (x9.2.2 == 9) false) = true → PCall Try.prog 47 [(di 2), (di 2)] (.d (.agg [(di x14.Lo), (di x14.Hi)]))), ((cond (cond (cond (cond (cond (cond (x2.2 == 0) (x3.2 == 0) false) (x4.2 == 0) false) (x5.2.2 == 0) false) (x6.2 == 0) false) (x7.2.2 == 0) false) (x9.2.2 == 9) false) = true → (cond (cond (cond (cond (cond (cond (x2.2 == 0) (x3.2 == 0) false) (x4.2 == 0) false) (x5.2.2 == 0) false) (x6.2 == 0) false) (x7.2.2 == 0) false) (x9.2.2 == 9) false) = true), ((cond (cond (cond (cond (cond (cond (x2.2 == 0) (x3.2 == 0) false) (x4.2 == 0) false) (x5.2.2 == 0) false) (x6.2 == 0) false) (x7.2.2 == 0) false) (x9.2.2 == 9) false) = true → (cond (cond (cond (cond (cond (cond (x2.2 == 0) (x3.2 == 0) false) (x4.2 == 0) false) (x5.2.2 == 0) false) (x6.2 == 0) false) (x7.2.2 == 0) false) (x9.2.2 == 9) false) = true), ((cond (cond (cond (cond (cond (cond (x2.2 == 0) (x3.2 == 0) false) (x4.2 == 0) false) (x5.2.2 == 0) false) (x6.2 == 0) false) (x7.2.2 == 0) false) (x9.2.2 == 9) false) = true → (cond (cond (cond (cond (cond (cond (x2.2 == 0) (x3.2 == 0) false) (x4.2 == 0) false) (x5.2.2 == 0) false) (x6.2 == 0) false) (x7.2.2 == 0) false) (x9.2.2 == 9) false) = true), ((cond (cond (cond (cond (cond (cond (x2.2 == 0) (x3.2 == 0) false) (x4.2 == 0) false) (x5.2.2 == 0) false) (x6.2 == 0) false) (x7.2.2 == 0) false) (x9.2.2 == 9) false) = true → (cond (cond (cond (cond (cond (cond (x2.2 == 0) (x3.2 == 0) false) (x4.2 == 0) false) (x5.2.2 == 0) false) (x6.2 == 0) false) (x7.2.2 == 0) false) (x9.2.2 == 9) false) = true), ((cond (cond (cond (cond (cond (cond (x2.2 == 0) (x3.2 == 0) false) (x4.2 == 0) false) (x5.2.2 == 0) false) (x6.2 == 0) false) (x7.2.2 == 0) false) (x9.2.2 == 9) false) = true → (cond (cond (cond (cond (cond (cond (x2.2 == 0) (x3.2 == 0) false) (x4.2 == 0) false) (x5.2.2 == 0) false) (x6.2 == 0) false) (x7.2.2 == 0) false) (x9.2.2 == 9) false) = true), ((cond (cond (cond (cond (cond (cond (x2.2 == 0) (x3.2 == 0) false) (x4.2 == 0) false) (x5.2.2 == 0) false) (x6.2 == 0) false) (x7.2.2 == 0) false) (x9.2.2 == 9) false) = true → (cond (cond (cond (cond (cond (cond (x2.2 == 0) (x3.2 == 0) false) (x4.2 == 0) false) (x5.2.2 == 0) false) (x6.2 == 0) false) (x7.2.2 == 0) false) (x9.2.2 == 9) false) = true), ((cond (cond (cond (cond (cond (cond (x2.2 == 0) (x3.2 == 0) false) (x4.2 == 0) false) (x5.2.2 == 0) false) (x6.2 == 0) false) (x7.2.2 == 0) false) (x9.2.2 == 9) false) = true → (cond (cond (cond (cond (cond (cond (x2.2 == 0) (x3.2 == 0) false) (x4.2 == 0) false) (x5.2.2 == 0) false) (x6.2 == 0) false) (x7.2.2 == 0) false) (x9.2.2 == 9) false) = true), ((cond (cond (cond (cond (cond (cond (x2.2 == 0) (x3.2 == 0) false) (x4.2 == 0) false) (x5.2.2 == 0) false) (x6.2 == 0) false) (x7.2.2 == 0) false) (x9.2.2 == 9) false) = true → PCall Try.prog 23 [(L60 x2.1), (L60 ([(⟨x10.Lo, x10.Hi⟩ : S_api_Span), (⟨x11.Lo, x11.Hi⟩ : S_api_Span), (⟨x12.Lo, x12.Hi⟩ : S_api_Span), (⟨x13.Lo, x13.Hi⟩ : S_api_Span), (⟨x14.Lo, x14.Hi⟩ : S_api_Span)] : List S_api_Span))] (vb x15)), ((cond (cond (cond (cond (cond (cond (x2.2 == 0) (x3.2 == 0) false) (x4.2 == 0) false) (x5.2.2 == 0) false) (x6.2 == 0) false) (x7.2.2 == 0) false) (x9.2.2 == 9) false) = true → (cond (cond (cond (cond (cond (cond (x2.2 == 0) (x3.2 == 0) false) (x4.2 == 0) false) (x5.2.2 == 0) false) (x6.2 == 0) false) (x7.2.2 == 0) false) (x9.2.2 == 9) false) = true), ((cond (cond (cond (cond (cond (cond (cond (x2.2 == 0) (x3.2 == 0) false) (x4.2 == 0) false) (x5.2.2 == 0) false) (x6.2 == 0) false) (x7.2.2 == 0) false) (x9.2.2 == 9) false) x15 false) = true → (cond (cond (cond (cond (cond (cond (cond (x2.2 == 0) (x3.2 == 0) false) (x4.2 == 0) false) (x5.2.2 == 0) false) (x6.2 == 0) false) (x7.2.2 == 0) false) (x9.2.2 == 9) false) x15 false) = true), ((cond (cond (cond (cond (cond (cond (cond (x2.2 == 0) (x3.2 == 0) false) (x4.2 == 0) false) (x5.2.2 == 0) false) (x6.2 == 0) false) (x7.2.2 == 0) false) (x9.2.2 == 9) false) x15 false) = true → (cond (cond (cond (cond (cond (cond (cond (x2.2 == 0) (x3.2 == 0) false) (x4.2 == 0) false) (x5.2.2 == 0) false) (x6.2 == 0) false) (x7.2.2 == 0) false) (x9.2.2 == 9) false) x15 false) = true), ((cond (cond (cond (cond (cond (cond (cond (x2.2 == 0) (x3.2 == 0) false) (x4.2 == 0) false) (x5.2.2 == 0) false) (x6.2 == 0) false) (x7.2.2 == 0) false) (x9.2.2 == 9) false) x15 false) = true → PCall Try.prog 26 [(L3 x3.1), (L3 ([1, 3] : List Int))] (vb x16)), ((cond (cond (cond (cond (cond (cond (cond (x2.2 == 0) (x3.2 == 0) false) (x4.2 == 0) false) (x5.2.2 == 0) false) (x6.2 == 0) false) (x7.2.2 == 0) false) (x9.2.2 == 9) false) x15 false) = true → (cond (cond (cond (cond (cond (cond (cond (x2.2 == 0) (x3.2 == 0) false) (x4.2 == 0) false) (x5.2.2 == 0) false) (x6.2 == 0) false) (x7.2.2 == 0) false) (x9.2.2 == 9) false) x15 false) = true), ((cond (cond (cond (cond (cond (cond (cond (cond (x2.2 == 0) (x3.2 == 0) false) (x4.2 == 0) false) (x5.2.2 == 0) false) (x6.2 == 0) false) (x7.2.2 == 0) false) (x9.2.2 == 9) false) x15 false) x16 false) = true → PCall Try.prog 38 [(di 0), (di 1)] (.d (.agg [(di x17.A), (di x17.B)]))), ((cond (cond (cond (cond (cond (cond (cond (cond (x2.2 == 0) (x3.2 == 0) false) (x4.2 == 0) false) (x5.2.2 == 0) false) (x6.2 == 0) false) (x7.2.2 == 0) false) (x9.2.2 == 9) false) x15 false) x16 false) = true → PCall Try.prog 38 [(di 1), (di 2)] (.d (.agg [(di x18.A), (di x18.B)]))), ((cond (cond (cond (cond (cond (cond (cond (cond (x2.2 == 0) (x3.2 == 0) false) (x4.2 == 0) false) (x5.2.2 == 0) false) (x6.2 == 0) false) (x7.2.2 == 0) false) (x9.2.2 == 9) false) x15 false) x16 false) = true → (cond (cond (cond (cond (cond (cond (cond (cond (x2.2 == 0) (x3.2 == 0) false) (x4.2 == 0) false) (x5.2.2 == 0) false) (x6.2 == 0) false) (x7.2.2 == 0) false) (x9.2.2 == 9) false) x15 false) x16 false) = true), ((cond (cond (cond (cond (cond (cond (cond (cond (x2.2 == 0) (x3.2 == 0) false) (x4.2 == 0) false) (x5.2.2 == 0) false) (x6.2 == 0) false) (x7.2.2 == 0) false) (x9.2.2 == 9) false) x15 false) x16 false) = true → (cond (cond (cond (cond (cond (cond (cond (cond (x2.2 == 0) (x3.2 == 0) false) (x4.2 == 0) false) (x5.2.2 == 0) false) (x6.2 == 0) false) (x7.2.2 == 0) false) (x9.2.2 == 9) false) x15 false) x16 false) = true), ((cond (cond (cond (cond (cond (cond (cond (cond (x2.2 == 0) (x3.2 == 0) false) (x4.2 == 0) false) (x5.2.2 == 0) false) (x6.2 == 0) false) (x7.2.2 == 0) false) (x9.2.2 == 9) false) x15 false) x16 false) = true → (cond (cond (cond (cond (cond (cond (cond (cond (x2.2 == 0) (x3.2 == 0) false) (x4.2 == 0) false) (x5.2.2 == 0) false) (x6.2 == 0) false) (x7.2.2 == 0) false) (x9.2.2 == 9) false) x15 false) x16 false) = true), ((cond (cond (cond (cond (cond (cond (cond (cond (x2.2 == 0) (x3.2 == 0) false) (x4.2 == 0) false) (x5.2.2 == 0) false) (x6.2 == 0) false) (x7.2.2 == 0) false) (x9.2.2 == 9) false) x15 false) x16 false) = true → (cond (cond (cond (cond (cond (cond (cond (cond (x2.2 == 0) (x3.2 == 0) false) (x4.2 == 0) false) (x5.2.2 == 0) false) (x6.2 == 0) false) (x7.2.2 == 0) false) (x9.2.2 == 9) false) x15 false) x16 false) = true), ((cond (cond (cond (cond (cond (cond (cond (cond (x2.2 == 0) (x3.2 == 0) false) (x4.2 == 0) false) (x5.2.2 == 0) false) (x6.2 == 0) false) (x7.2.2 == 0) false) (x9.2.2 == 9) false) x15 false) x16 false) = true → PCall Try.prog 29 [(L51 x4.1), (L51 ([(⟨x17.A, x17.B⟩ : S_api_ClPair), (⟨x18.A, x18.B⟩ : S_api_ClPair)] : List S_api_ClPair))] (vb x19)), ((cond (cond (cond (cond (cond (cond (cond (cond (x2.2 == 0) (x3.2 == 0) false) (x4.2 == 0) false) (x5.2.2 == 0) false) (x6.2 == 0) false) (x7.2.2 == 0) false) (x9.2.2 == 9) false) x15 false) x16 false) = true → (cond (cond (cond (cond (cond (cond (cond (cond (x2.2 == 0) (x3.2 == 0) false) (x4.2 == 0) false) (x5.2.2 == 0) false) (x6.2 == 0) false) (x7.2.2 == 0) false) (x9.2.2 == 9) false) x15 false) x16 false) = true), ((cond (cond (cond (cond (cond (cond (cond (cond (cond (x2.2 == 0) (x3.2 == 0) false) (x4.2 == 0) false) (x5.2.2 == 0) false) (x6.2 == 0) false) (x7.2.2 == 0) false) (x9.2.2 == 9) false) x15 false) x16 false) x19 false) = true → (cond (cond (cond (cond (cond (cond (cond (cond (cond (x2.2 == 0) (x3.2 == 0) false) (x4.2 == 0) false) (x5.2.2 == 0) false) (x6.2 == 0) false) (x7.2.2 == 0) false) (x9.2.2 == 9) false) x15 false) x16 false) x19 false) = true), ((cond (cond (cond (cond (cond (cond (cond (cond (cond (x2.2 == 0) (x3.2 == 0) false) (x4.2 == 0) false) (x5.2.2 == 0) false) (x6.2 == 0) false) (x7.2.2 == 0) false) (x9.2.2 == 9) false) x15 false) x16 false) x19 false) = true → (cond (cond (cond (cond (cond (cond (cond (cond (cond (x2.2 == 0) (x3.2 == 0) false) (x4.2 == 0) false) (x5.2.2 == 0) false) (x6.2 == 0) false) (x7.2.2 == 0) false) (x9.2.2 == 9) false) x15 false) x16 false) x19 false) = true), ((cond (cond (cond (cond (cond (cond (cond (cond (cond (x2.2 == 0) (x3.2 == 0) false) (x4.2 == 0) false) (x5.2.2 == 0) false) (x6.2 == 0) false) (x7.2.2 == 0) false) (x9.2.2 == 9) false) x15 false) x16 false) x19 false) = true → PCall Try.prog 26 [(L3 x5.1), (L3 ([0, 2, 0] : List Int))] (vb x20)), ((cond (cond (cond (cond (cond (cond (cond (cond (cond (x2.2 == 0) (x3.2 == 0) false) (x4.2 == 0) false) (x5.2.2 == 0) false) (x6.2 == 0) false) (x7.2.2 == 0) false) (x9.2.2 == 9) false) x15 false) x16 false) x19 false) = true → (cond (cond (cond (cond (cond (cond (cond (cond (cond (x2.2 == 0) (x3.2 == 0) false) (x4.2 == 0) false) (x5.2.2 == 0) false) (x6.2 == 0) false) (x7.2.2 == 0) false) (x9.2.2 == 9) false) x15 false) x16 false) x19 false) = true), ((cond (cond (cond (cond (cond (cond (cond (cond (cond (cond (x2.2 == 0) (x3.2 == 0) false) (x4.2 == 0) false) (x5.2.2 == 0) false) (x6.2 == 0) false) (x7.2.2 == 0) false) (x9.2.2 == 9) false) x15 false) x16 false) x19 false) x20 false) = true → (cond (cond (cond (cond (cond (cond (cond (cond (cond (cond (x2.2 == 0) (x3.2 == 0) false) (x4.2 == 0) false) (x5.2.2 == 0) false) (x6.2 == 0) false) (x7.2.2 == 0) false) (x9.2.2 == 9) false) x15 false) x16 false) x19 false) x20 false) = true), ((cond (cond (cond (cond (cond (cond (cond (cond (cond (cond (x2.2 == 0) (x3.2 == 0) false) (x4.2 == 0) false) (x5.2.2 == 0) false) (x6.2 == 0) false) (x7.2.2 == 0) false) (x9.2.2 == 9) false) x15 false) x16 false) x19 false) x20 false) = true → (cond (cond (cond (cond (cond (cond (cond (cond (cond (cond (x2.2 == 0) (x3.2 == 0) false) (x4.2 == 0) false) (x5.2.2 == 0) false) (x6.2 == 0) false) (x7.2.2 == 0) false) (x9.2.2 == 9) false) x15 false) x16 false) x19 false) x20 false) = true), ((cond (cond (cond (cond (cond (cond (cond (cond (cond (cond (cond (x2.2 == 0) (x3.2 == 0) false) (x4.2 == 0) false) (x5.2.2 == 0) false) (x6.2 == 0) false) (x7.2.2 == 0) false) (x9.2.2 == 9) false) x15 false) x16 false) x19 false) x20 false) (x5.2.1 == 2) false) = true → (cond (cond (cond (cond (cond (cond (cond (cond (cond (cond (cond (x2.2 == 0) (x3.2 == 0) false) (x4.2 == 0) false) (x5.2.2 == 0) false) (x6.2 == 0) false) (x7.2.2 == 0) false) (x9.2.2 == 9) false) x15 false) x16 false) x19 false) x20 false) (x5.2.1 == 2) false) = true), ((cond (cond (cond (cond (cond (cond (cond (cond (cond (cond (cond (x2.2 == 0) (x3.2 == 0) false) (x4.2 == 0) false) (x5.2.2 == 0) false) (x6.2 == 0) false) (x7.2.2 == 0) false) (x9.2.2 == 9) false) x15 false) x16 false) x19 false) x20 false) (x5.2.1 == 2) false) = true → (cond (cond (cond (cond (cond (cond (cond (cond (cond (cond (cond (x2.2 == 0) (x3.2 == 0) false) (x4.2 == 0) false) (x5.2.2 == 0) false) (x6.2 == 0) false) (x7.2.2 == 0) false) (x9.2.2 == 9) false) x15 false) x16 false) x19 false) x20 false) (x5.2.1 == 2) false) = true), ((cond (cond (cond (cond (cond (cond (cond (cond (cond (cond (cond (x2.2 == 0) (x3.2 == 0) false) (x4.2 == 0) false) (x5.2.2 == 0) false) (x6.2 == 0) false) (x7.2.2 == 0) false) (x9.2.2 == 9) false) x15 false) x16 false) x19 false) x20 false) (x5.2.1 == 2) false) = true → PCall Try.prog 26 [(L3 x6.1), (L3 ([0, 1] : List Int))] (vb x21)), ((cond (cond (cond (cond (cond (cond (cond (cond (cond (cond (cond (x2.2 == 0) (x3.2 == 0) false) (x4.2 == 0) false) (x5.2.2 == 0) false) (x6.2 == 0) false) (x7.2.2 == 0) false) (x9.2.2 == 9) false) x15 false) x16 false) x19 false) x20 false) (x5.2.1 == 2) false) = true → (cond (cond (cond (cond (cond (cond (cond (cond (cond (cond (cond (x2.2 == 0) (x3.2 == 0) false) (x4.2 == 0) false) (x5.2.2 == 0) false) (x6.2 == 0) false) (x7.2.2 == 0) false) (x9.2.2 == 9) false) x15 false) x16 false) x19 false) x20 false) (x5.2.1 == 2) false) = true), ((cond (cond (cond (cond (cond (cond (cond (cond (cond (cond (cond (cond (x2.2 == 0) (x3.2 == 0) false) (x4.2 == 0) false) (x5.2.2 == 0) false) (x6.2 == 0) false) (x7.2.2 == 0) false) (x9.2.2 == 9) false) x15 false) x16 false) x19 false) x20 false) (x5.2.1 == 2) false) x21 false) = true → (cond (cond (cond (cond (cond (cond (cond (cond (cond (cond (cond (cond (x2.2 == 0) (x3.2 == 0) false) (x4.2 == 0) false) (x5.2.2 == 0) false) (x6.2 == 0) false) (x7.2.2 == 0) false) (x9.2.2 == 9) false) x15 false) x16 false) x19 false) x20 false) (x5.2.1 == 2) false) x21 false) = true), ((cond (cond (cond (cond (cond (cond (cond (cond (cond (cond (cond (cond (x2.2 == 0) (x3.2 == 0) false) (x4.2 == 0) false) (x5.2.2 == 0) false) (x6.2 == 0) false) (x7.2.2 == 0) false) (x9.2.2 == 9) false) x15 false) x16 false) x19 false) x20 false) (x5.2.1 == 2) false) x21 false) = true → (cond (cond (cond (cond (cond (cond (cond (cond (cond (cond (cond (cond (x2.2 == 0) (x3.2 == 0) false) (x4.2 == 0) false) (x5.2.2 == 0) false) (x6.2 == 0) false) (x7.2.2 == 0) false) (x9.2.2 == 9) false) x15 false) x16 false) x19 false) x20 false) (x5.2.1 == 2) false) x21 false) = true), ((cond (cond (cond (cond (cond (cond (cond (cond (cond (cond (cond (cond (x2.2 == 0) (x3.2 == 0) false) (x4.2 == 0) false) (x5.2.2 == 0) false) (x6.2 == 0) false) (x7.2.2 == 0) false) (x9.2.2 == 9) false) x15 false) x16 false) x19 false) x20 false) (x5.2.1 == 2) false) x21 false) = true → PCall Try.prog 26 [(L3 x7.1), (L3 ([104, 203] : List Int))] (vb x22)), ((cond (cond (cond (cond (cond (cond (cond (cond (cond (cond (cond (cond (x2.2 == 0) (x3.2 == 0) false) (x4.2 == 0) false) (x5.2.2 == 0) false) (x6.2 == 0) false) (x7.2.2 == 0) false) (x9.2.2 == 9) false) x15 false) x16 false) x19 false) x20 false) (x5.2.1 == 2) false) x21 false) = true → (cond (cond (cond (cond (cond (cond (cond (cond (cond (cond (cond (cond (x2.2 == 0) (x3.2 == 0) false) (x4.2 == 0) false) (x5.2.2 == 0) false) (x6.2 == 0) false) (x7.2.2 == 0) false) (x9.2.2 == 9) false) x15 false) x16 false) x19 false) x20 false) (x5.2.1 == 2) false) x21 false) = true), ((cond (cond (cond (cond (cond (cond (cond (cond (cond (cond (cond (cond (cond (x2.2 == 0) (x3.2 == 0) false) (x4.2 == 0) false) (x5.2.2 == 0) false) (x6.2 == 0) false) (x7.2.2 == 0) false) (x9.2.2 == 9) false) x15 false) x16 false) x19 false) x20 false) (x5.2.1 == 2) false) x21 false) x22 false) = true → (cond (cond (cond (cond (cond (cond (cond (cond (cond (cond (cond (cond (cond (x2.2 == 0) (x3.2 == 0) false) (x4.2 == 0) false) (x5.2.2 == 0) false) (x6.2 == 0) false) (x7.2.2 == 0) false) (x9.2.2 == 9) false) x15 false) x16 false) x19 false) x20 false) (x5.2.1 == 2) false) x21 false) x22 false) = true), ((cond (cond (cond (cond (cond (cond (cond (cond (cond (cond (cond (cond (cond (x2.2 == 0) (x3.2 == 0) false) (x4.2 == 0) false) (x5.2.2 == 0) false) (x6.2 == 0) false) (x7.2.2 == 0) false) (x9.2.2 == 9) false) x15 false) x16 false) x19 false) x20 false) (x5.2.1 == 2) false) x21 false) x22 false) = true → (cond (cond (cond (cond (cond (cond (cond (cond (cond (cond (cond (cond (cond (x2.2 == 0) (x3.2 == 0) false) (x4.2 == 0) false) (x5.2.2 == 0) false) (x6.2 == 0) false) (x7.2.2 == 0) false) (x9.2.2 == 9) false) x15 false) x16 false) x19 false) x20 false) (x5.2.1 == 2) false) x21 false) x22 false) = true)] (And.intro (id) (And.intro (id) (And.intro (id) (And.intro (id) (And.intro (id) (And.intro (id) (And.intro (id) (And.intro (id) (And.intro (id) (And.intro (id) (And.intro (id) (And.intro (id) (And.intro ((fun hg => ct47 (optG_of hx10 hg))) (And.intro ((fun hg => ct47 (optG_of hx11 hg))) (And.intro ((fun hg => ct47 (optG_of hx12 hg))) (And.intro ((fun hg => ct47 (optG_of hx13 hg))) (And.intro ((fun hg => ct47 (optG_of hx14 hg))) (And.intro (id) (And.intro (id) (And.intro (id) (And.intro (id) (And.intro (id) (And.intro (id) (And.intro (id) (And.intro ((fun hg => ct23 (optG_of hx15 hg))) (And.intro (id) (And.intro (id) (And.intro (id) (And.intro ((fun hg => ct26 (optG_of hx16 hg))) (And.intro (id) (And.intro ((fun hg => ct38 (optG_of hx17 hg))) (And.intro ((fun hg => ct38 (optG_of hx18 hg))) (And.intro (id) (And.intro (id) (And.intro (id) (And.intro (id) (And.intro ((fun hg => ct29 (optG_of hx19 hg))) (And.intro (id) (And.intro (id) (And.intro (id) (And.intro ((fun hg => ct26 (optG_of hx20 hg))) (And.intro (id) (And.intro (id) (And.intro (id) (And.intro (id) (And.intro (id) (And.intro ((fun hg => ct26 (optG_of hx21 hg))) (And.intro (id) (And.intro (id) (And.intro (id) (And.intro ((fun hg => ct26 (optG_of hx22 hg))) (And.intro (id) (And.intro (id) (id)))))))))))))))))))))))))))))))))))))))))))))))))))))) ?_
 obtain rfl := Option.some.inj h
 refine gw 1 [0] [(0, vb (cond (cond (cond (cond (cond (cond (cond (cond (cond (cond (cond (cond (cond (cond (x2.2 == 0) (x3.2 == 0) false) (x4.2 == 0) false) (x5.2.2 == 0) false) (x6.2 == 0) false) (x7.2.2 == 0) false) (x9.2.2 == 9) false) x15 false) x16 false) x19 false) x20 false) (x5.2.1 == 2) false) x21 false) x22 false) (x7.2.1 == 0) false))] [mc x1] ?_
 exact awp_ret gm
end Go.Proofs.Ytpkhbbboedoldaa
