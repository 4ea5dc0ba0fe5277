/- That functions of the seat compute this. Printed by a program of mine. -/
import Derived.Test.YtallnifoeahpiaaS
import Derived.Test.YtallnifoeahpiaaCEA
import Derived.Test.YtallnifoeahpiaaCEB
import Derived.Test.YtallnifoeahpiaaCEC
import Derived.Test.YtallnifoeahpiaaCRA
import Derived.Test.YtallnifoeahpiaaCRB
import Derived.Test.YtallnifoeahpiaaCW
import Derived.Test.YtallnifoeahpiaaDLA
namespace Go.Proofs.Ytallnifoeahpiaa
open Go Go.Sx
set_option maxRecDepth 100000
set_option linter.unusedVariables false
theorem ct3 {fuel : Nat}  {p_c : S_api_EdCase} {i : Int} {changes : (List Int)} {res : Bool} (h : F3 fuel p_c i changes = some res) : PCall Try.prog 3 [(ca p_c), (di i), (L3 changes)] (vb res) := by
 refine PCall.of_awp tt_ok (N := 105) Try.func3 rfl (by kernel_rfl) rfl (Nat.le_of_ble_eq_true rfl) rfl ?_
 unfold F3 at h
 refine g0 [1, 2, 3] [] [(1, vi i), (2, .d (L3 changes)), (3, rf 0)] [cs p_c] ?_
 obtain ⟨x1, hx1, h⟩ := ob h
 refine hr [1, 2, 3, 7, 8, 9] [.no, .call [(ca p_c)] (.tup [vi x1.1, vi x1.2.1, vi x1.2.2])] [(1, vi i), (2, .d (L3 changes)), (3, rf 0), (7, vi x1.1), (8, vi x1.2.1), (9, vi x1.2.2)] [PCall Try.prog 16 [(ca p_c)] (.tup [vi x1.1, vi x1.2.1, vi x1.2.2])] (ct16 hx1) ?_
 obtain ⟨x2, hx2, h⟩ := ob h
 refine hr [1, 2, 3, 7, 8, 9, 10, 11, 12] [.no, .call [(ca p_c)] (.tup [vi x2.1, vi x2.2.1, vi x2.2.2])] [(1, vi i), (2, .d (L3 changes)), (3, rf 0), (7, vi x1.1), (8, vi x1.2.1), (9, vi x1.2.2), (10, vi x2.1), (11, vi x2.2.1), (12, vi x2.2.2)] [PCall Try.prog 17 [(ca p_c)] (.tup [vi x2.1, vi x2.2.1, vi x2.2.2])] (ct17 hx2) ?_
 refine awp_seq (hr [1, 2, 3, 41] [] [(1, vi i), (2, .d (L3 changes)), (3, rf 0), (41, vb (cond (cond (x1.1 != x2.1) true (x1.2.1 != x2.2.1)) true (x1.2.2 != x2.2.2)))] [((!(x1.1 != x2.1)) = true → (!(x1.1 != x2.1)) = true), ((!(x1.1 != x2.1)) = true → (!(x1.1 != x2.1)) = true), ((x1.1 != x2.1) = false → (!(x1.1 != x2.1)) = true), ((!(cond (x1.1 != x2.1) true (x1.2.1 != x2.2.1))) = true → (!(cond (x1.1 != x2.1) true (x1.2.1 != x2.2.1))) = true), ((!(cond (x1.1 != x2.1) true (x1.2.1 != x2.2.1))) = true → (!(cond (x1.1 != x2.1) true (x1.2.1 != x2.2.1))) = true), ((cond (x1.1 != x2.1) true (x1.2.1 != x2.2.1)) = false → (!(cond (x1.1 != x2.1) true (x1.2.1 != x2.2.1))) = true)] (And.intro (id) (And.intro (id) (And.intro (not_of) (And.intro (id) (And.intro (id) (not_of)))))) ?_)
 refine awp_cond (b := (cond (cond (x1.1 != x2.1) true (x1.2.1 != x2.2.1)) true (x1.2.2 != x2.2.2))) (by kernel_rfl) (fun hb3 => ?_) (fun hb3 => ?_)
 ·rw [if_pos hb3] at h
  refine g0 [6] [] [(6, vb false)] [cs p_c] ?_
  obtain rfl := Option.some.inj h
  refine hw 1 [6] [(6, vb false)] ?_
  exact awp_ret gm
 ·rw [if_neg (ntrue hb3)] at h
  refine awp_skip ?_
  show awp ..
  obtain ⟨x4, hx4, h⟩ := ob h
  refine gr [1, 2, 3, 9, 13] [.no, .no, .call [(ca p_c), (di i)] (.tup [.d (.agg [(di x4.1.Lo), (di x4.1.Hi)]), vi x4.2])] [(1, vi i), (2, .d (L3 changes)), (3, rf 0), (9, vi x4.2), (13, rf 1)] [cs p_c, .cells [vi x4.1.Lo, vi x4.1.Hi]] [PCall Try.prog 18 [(ca p_c), (di i)] (.tup [.d (.agg [(di x4.1.Lo), (di x4.1.Hi)]), vi x4.2])] (ct18 hx4) ?_
  obtain ⟨x5, hx5, h⟩ := ob h
  refine gr [2, 3, 9, 12, 13, 14] [.no, .no, .call [(ca p_c), (di i)] (.tup [.d (.agg [(di x5.1.Lo), (di x5.1.Hi)]), vi x5.2])] [(2, .d (L3 changes)), (3, rf 0), (9, vi x4.2), (12, vi x5.2), (13, rf 1), (14, rf 2)] [cs p_c, .cells [vi x4.1.Lo, vi x4.1.Hi], .cells [vi x5.1.Lo, vi x5.1.Hi]] [PCall Try.prog 19 [(ca p_c), (di i)] (.tup [.d (.agg [(di x5.1.Lo), (di x5.1.Hi)]), vi x5.2])] (ct19 hx5) ?_
  refine awp_seq (hr [2, 3, 61] [] [(2, .d (L3 changes)), (3, rf 0), (61, vb (cond (!((x4.1.Lo == x5.1.Lo) && (x4.1.Hi == x5.1.Hi))) true (x4.2 != x5.2)))] [((!(!((x4.1.Lo == x5.1.Lo) && (x4.1.Hi == x5.1.Hi)))) = true → (!(!((x4.1.Lo == x5.1.Lo) && (x4.1.Hi == x5.1.Hi)))) = true), ((!(!((x4.1.Lo == x5.1.Lo) && (x4.1.Hi == x5.1.Hi)))) = true → (!(!((x4.1.Lo == x5.1.Lo) && (x4.1.Hi == x5.1.Hi)))) = true), ((!((x4.1.Lo == x5.1.Lo) && (x4.1.Hi == x5.1.Hi))) = false → (!(!((x4.1.Lo == x5.1.Lo) && (x4.1.Hi == x5.1.Hi)))) = true)] (And.intro (id) (And.intro (id) (not_of))) ?_)
  refine awp_cond (b := (cond (!((x4.1.Lo == x5.1.Lo) && (x4.1.Hi == x5.1.Hi))) true (x4.2 != x5.2))) (by kernel_rfl) (fun hb6 => ?_) (fun hb6 => ?_)
  ·rw [if_pos hb6] at h
   refine g0 [6] [] [(6, vb false)] [cs p_c, .cells [vi x4.1.Lo, vi x4.1.Hi], .cells [vi x5.1.Lo, vi x5.1.Hi]] ?_
   obtain rfl := Option.some.inj h
   refine hw 3 [6] [(6, vb false)] ?_
   exact awp_ret gm
  ·rw [if_neg (ntrue hb6)] at h
   refine awp_skip ?_
   show awp ..
   obtain ⟨x7, hx7, h⟩ := ob h
   refine gr [2, 3, 9, 15] [.no, .no, .call [(ca p_c), (L3 changes)] (.tup [vi x7.1, vi x7.2])] [(2, .d (L3 changes)), (3, rf 0), (9, vi x7.2), (15, vi x7.1)] [cs p_c, .cells [vi x4.1.Lo, vi x4.1.Hi], .cells [vi x5.1.Lo, vi x5.1.Hi]] [PCall Try.prog 20 [(ca p_c), (L3 changes)] (.tup [vi x7.1, vi x7.2])] (ct20 hx7) ?_
   obtain ⟨x8, hx8, h⟩ := ob h
   refine hr [2, 3, 9, 12, 15, 16] [.no, .no, .call [(ca p_c), (L3 changes)] (.tup [vi x8.1, vi x8.2])] [(2, .d (L3 changes)), (3, rf 0), (9, vi x7.2), (12, vi x8.2), (15, vi x7.1), (16, vi x8.1)] [PCall Try.prog 21 [(ca p_c), (L3 changes)] (.tup [vi x8.1, vi x8.2])] (ct21 hx8) ?_
   refine awp_seq (hr [2, 3, 81] [] [(2, .d (L3 changes)), (3, rf 0), (81, vb (cond (x7.1 != x8.1) true (x7.2 != x8.2)))] [((!(x7.1 != x8.1)) = true → (!(x7.1 != x8.1)) = true), ((!(x7.1 != x8.1)) = true → (!(x7.1 != x8.1)) = true), ((x7.1 != x8.1) = false → (!(x7.1 != x8.1)) = true)] (And.intro (id) (And.intro (id) (not_of))) ?_)
   refine awp_cond (b := (cond (x7.1 != x8.1) true (x7.2 != x8.2))) (by kernel_rfl) (fun hb9 => ?_) (fun hb9 => ?_)
   ·rw [if_pos hb9] at h
    refine g0 [6] [] [(6, vb false)] [cs p_c, .cells [vi x4.1.Lo, vi x4.1.Hi], .cells [vi x5.1.Lo, vi x5.1.Hi]] ?_
    obtain rfl := Option.some.inj h
    refine hw 3 [6] [(6, vb false)] ?_
    exact awp_ret gm
   ·rw [if_neg (ntrue hb9)] at h
    refine awp_skip ?_
    show awp ..
    obtain ⟨x10, hx10, h⟩ := ob h
    refine gr [2, 3, 9, 15] [.no, .no, .call [(ca p_c), (L3 changes)] (.tup [vi x10.1, vi x10.2])] [(2, .d (L3 changes)), (3, rf 0), (9, vi x10.2), (15, vi x10.1)] [cs p_c, .cells [vi x4.1.Lo, vi x4.1.Hi], .cells [vi x5.1.Lo, vi x5.1.Hi]] [PCall Try.prog 22 [(ca p_c), (L3 changes)] (.tup [vi x10.1, vi x10.2])] (ct22 hx10) ?_
    obtain ⟨x11, hx11, h⟩ := ob h
    refine hr [9, 12, 15, 16] [.no, .no, .call [(ca p_c), (L3 changes)] (.tup [vi x11.1, vi x11.2])] [(9, vi x10.2), (12, vi x11.2), (15, vi x10.1), (16, vi x11.1)] [PCall Try.prog 23 [(ca p_c), (L3 changes)] (.tup [vi x11.1, vi x11.2])] (ct23 hx11) ?_
    obtain ⟨x12, hx12, h⟩ := ob h
    refine hr [6] [.no, .no, .no, .no, .no, .no, .no, .no, .no, .call [] (vb x12)] [(6, vb (cond (cond (x10.1 == x11.1) (x10.2 == x11.2) false) x12 false))] [((x10.1 == x11.1) = true → (x10.1 == x11.1) = true), ((x10.1 == x11.1) = true → (x10.1 == x11.1) = true), ((x10.1 == x11.1) = true → (x10.1 == x11.1) = true), ((cond (x10.1 == x11.1) (x10.2 == x11.2) false) = true → PCall Try.prog 24 [] (vb x12)), ((cond (x10.1 == x11.1) (x10.2 == x11.2) false) = true → (cond (x10.1 == x11.1) (x10.2 == x11.2) false) = true)] (And.intro (id) (And.intro (id) (And.intro (id) (And.intro ((fun hg => ct24 (optG_of hx12 hg))) (id))))) ?_
    obtain rfl := Option.some.inj h
    refine hw 3 [6] [(6, vb (cond (cond (x10.1 == x11.1) (x10.2 == x11.2) false) x12 false))] ?_
    exact awp_ret gm
end Go.Proofs.Ytallnifoeahpiaa
