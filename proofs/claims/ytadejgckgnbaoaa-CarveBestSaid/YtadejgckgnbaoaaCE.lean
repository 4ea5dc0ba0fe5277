/- That functions of the seat compute this. Printed by a program of mine. -/
import Derived.Test.YtadejgckgnbaoaaS
import Derived.Test.YtadejgckgnbaoaaCA2
import Derived.Test.YtadejgckgnbaoaaCB
import Derived.Test.YtadejgckgnbaoaaCV
import Derived.Test.YtadejgckgnbaoaaDE
namespace Go.Proofs.Ytadejgckgnbaoaa
open Go Go.Sx
set_option linter.unusedVariables false

set_option maxRecDepth 100000 in
theorem ct70  {p_a : S_hachureref04qRest} {p_b : S_hachureref04qRest} {passes : Bool} {res : Bool} (h : F70 p_a p_b passes = some res) : PCall Try.prog 70 [(.agg [(db p_a.Is), (L3 p_a.Surface), (di p_a.Plaster), (di p_a.Many)]), (.agg [(db p_b.Is), dnil, (di p_b.Plaster), (di p_b.Many)]), (db passes)] (vb res) := by
  refine PCall.of_awp tt_ok (N := 37) Try.func70 rfl (by kernel_rfl) rfl (Nat.le_of_ble_eq_true rfl) rfl ?_
  unfold F70 at h
  refine awp_sreg tt_ok (ks := [2, 3, 4]) (hs := []) [(2, vb passes), (3, .ref 0 0), (4, .ref 1 0)] [.cells [vb p_a.Is, .d (L3 p_a.Surface), vi p_a.Plaster, vi p_a.Many], .cells [vb p_b.Is, .d dnil, vi p_b.Plaster, vi p_b.Many]] [] (by kernel_rfl) trivial ?_
  refine awp_sdraw tt_ok mixed (ks := [2, 7, 8, 9, 10]) (hs := []) 11 [2, 7, 8, 9, 10, 18] [(2, vb passes), (7, vi p_a.Plaster), (8, vi p_b.Plaster), (9, vi p_a.Many), (10, vi p_b.Many)] [.cells [vb p_a.Is, .d (L3 p_a.Surface), vi p_a.Plaster, vi p_a.Many], .cells [vb p_b.Is, .d dnil, vi p_b.Plaster, vi p_b.Many]] [] (by kernel_rfl) trivial ?_
  refine awp_seq ?_
  refine awp_sreg tt_ok (ks := [7, 8, 9, 10, 19]) (hs := []) [(7, vi p_a.Plaster), (8, vi p_b.Plaster), (9, vi p_a.Many), (10, vi p_b.Many), (19, vb passes)] [.cells [vb p_a.Is, .d (L3 p_a.Surface), vi p_a.Plaster, vi p_a.Many], .cells [vb p_b.Is, .d dnil, vi p_b.Plaster, vi p_b.Many]] [] (by kernel_rfl) trivial ?_
  refine awp_cond (b := passes) (by kernel_rfl) (fun hb1 => ?_) (fun hb1 => ?_)
  · rw [if_pos hb1] at h
    refine awp_region (T' := [(7, vi p_a.Many), (8, vi p_b.Many), (9, vi p_a.Plaster), (10, vi p_b.Plaster)]) (H' := [.cells [vb p_a.Is, .d (L3 p_a.Surface), vi p_a.Plaster, vi p_a.Many], .cells [vb p_b.Is, .d dnil, vi p_b.Plaster, vi p_b.Many]]) (ps := []) tt_ok (ks := [7, 8, 9, 10]) (hs := []) (by kernel_rfl) trivial ?_
    show awp _ _ _ _ _ _ _ _
    refine awp_sreg tt_ok (ks := [6]) (hs := [.no, .no, .no, .no, .no, .no, .no, .no, .no, .no, .no, .own]) [(6, vb (cond (decide (p_a.Many < p_b.Many)) true (cond (p_a.Many == p_b.Many) (decide (p_a.Plaster < p_b.Plaster)) false)))] [.cells [vb p_a.Is, .d (L3 p_a.Surface), vi p_a.Plaster, vi p_a.Many], .cells [vb p_b.Is, .d dnil, vi p_b.Plaster, vi p_b.Many]] [((!(decide (p_a.Many < p_b.Many))) = true → (!(decide (p_a.Many < p_b.Many))) = true), ((!(decide (p_a.Many < p_b.Many))) = true → (!(decide (p_a.Many < p_b.Many))) = true), ((!(decide (p_a.Many < p_b.Many))) = true → (!(decide (p_a.Many < p_b.Many))) = true), (((!(decide (p_a.Many < p_b.Many))) && (p_a.Many == p_b.Many)) = true → ((!(decide (p_a.Many < p_b.Many))) && (p_a.Many == p_b.Many)) = true), (((!(decide (p_a.Many < p_b.Many))) && (p_a.Many == p_b.Many)) = true → ((!(decide (p_a.Many < p_b.Many))) && (p_a.Many == p_b.Many)) = true), ((!(decide (p_a.Many < p_b.Many))) = true → (!(decide (p_a.Many < p_b.Many))) = true), ((!(decide (p_a.Many < p_b.Many))) = true → (p_a.Many == p_b.Many) = true → ((!(decide (p_a.Many < p_b.Many))) && (p_a.Many == p_b.Many)) = true), ((decide (p_a.Many < p_b.Many)) = false → (!(decide (p_a.Many < p_b.Many))) = true)] (by kernel_rfl) (And.intro (id) (And.intro (id) (And.intro (id) (And.intro (id) (And.intro (id) (And.intro (id) (And.intro ((fun hg h1 => by first | exact hg | exact h1 | (rw [hg, h1]; rfl) | (simp only [hg, h1, Bool.not_true, Bool.not_false, Bool.and_self, Bool.true_and, Bool.and_true]; done) | (simp only [Bool.and_eq_true] at hg; simp only [hg, h1, Bool.not_true, Bool.not_false, Bool.and_self, Bool.true_and, Bool.and_true]; done) | simp_all)) (not_of)))))))) ?_
    obtain rfl := Option.some.inj h
    refine awp_wk 2 [6] (by kernel_rfl) [(6, vb (cond (decide (p_a.Many < p_b.Many)) true (cond (p_a.Many == p_b.Many) (decide (p_a.Plaster < p_b.Plaster)) false)))] [.cells [vb p_a.Is, .d (L3 p_a.Surface), vi p_a.Plaster, vi p_a.Many], .cells [vb p_b.Is, .d dnil, vi p_b.Plaster, vi p_b.Many]] (by kernel_rfl) (by kernel_rfl) ?_
    exact awp_ret (main_ret (by kernel_rfl))
  · rw [if_neg (ntrue hb1)] at h
    refine awp_skip ?_
    show awp _ _ _ _ _ _ _ _
    refine awp_sreg tt_ok (ks := [6]) (hs := [.no, .no, .no, .no, .no, .no, .no, .no, .no, .no, .no, .own]) [(6, vb (cond (decide (p_a.Plaster < p_b.Plaster)) true (cond (p_a.Plaster == p_b.Plaster) (decide (p_a.Many < p_b.Many)) false)))] [.cells [vb p_a.Is, .d (L3 p_a.Surface), vi p_a.Plaster, vi p_a.Many], .cells [vb p_b.Is, .d dnil, vi p_b.Plaster, vi p_b.Many]] [((!(decide (p_a.Plaster < p_b.Plaster))) = true → (!(decide (p_a.Plaster < p_b.Plaster))) = true), ((!(decide (p_a.Plaster < p_b.Plaster))) = true → (!(decide (p_a.Plaster < p_b.Plaster))) = true), ((!(decide (p_a.Plaster < p_b.Plaster))) = true → (!(decide (p_a.Plaster < p_b.Plaster))) = true), (((!(decide (p_a.Plaster < p_b.Plaster))) && (p_a.Plaster == p_b.Plaster)) = true → ((!(decide (p_a.Plaster < p_b.Plaster))) && (p_a.Plaster == p_b.Plaster)) = true), (((!(decide (p_a.Plaster < p_b.Plaster))) && (p_a.Plaster == p_b.Plaster)) = true → ((!(decide (p_a.Plaster < p_b.Plaster))) && (p_a.Plaster == p_b.Plaster)) = true), ((!(decide (p_a.Plaster < p_b.Plaster))) = true → (!(decide (p_a.Plaster < p_b.Plaster))) = true), ((!(decide (p_a.Plaster < p_b.Plaster))) = true → (p_a.Plaster == p_b.Plaster) = true → ((!(decide (p_a.Plaster < p_b.Plaster))) && (p_a.Plaster == p_b.Plaster)) = true), ((decide (p_a.Plaster < p_b.Plaster)) = false → (!(decide (p_a.Plaster < p_b.Plaster))) = true)] (by kernel_rfl) (And.intro (id) (And.intro (id) (And.intro (id) (And.intro (id) (And.intro (id) (And.intro (id) (And.intro ((fun hg h1 => by first | exact hg | exact h1 | (rw [hg, h1]; rfl) | (simp only [hg, h1, Bool.not_true, Bool.not_false, Bool.and_self, Bool.true_and, Bool.and_true]; done) | (simp only [Bool.and_eq_true] at hg; simp only [hg, h1, Bool.not_true, Bool.not_false, Bool.and_self, Bool.true_and, Bool.and_true]; done) | simp_all)) (not_of)))))))) ?_
    obtain rfl := Option.some.inj h
    refine awp_wk 2 [6] (by kernel_rfl) [(6, vb (cond (decide (p_a.Plaster < p_b.Plaster)) true (cond (p_a.Plaster == p_b.Plaster) (decide (p_a.Many < p_b.Many)) false)))] [.cells [vb p_a.Is, .d (L3 p_a.Surface), vi p_a.Plaster, vi p_a.Many], .cells [vb p_b.Is, .d dnil, vi p_b.Plaster, vi p_b.Many]] (by kernel_rfl) (by kernel_rfl) ?_
    exact awp_ret (main_ret (by kernel_rfl))

set_option maxRecDepth 100000 in
theorem ct70v1  {p_a : S_hachureref04qRest} {p_b : S_hachureref04qRest} {passes : Bool} {res : Bool} (h : F70v1 p_a p_b passes = some res) : PCall Try.prog 70 [(.agg [(db p_a.Is), (L3 p_a.Surface), (di p_a.Plaster), (di p_a.Many)]), (.agg [(db p_b.Is), (L3 p_b.Surface), (di p_b.Plaster), (di p_b.Many)]), (db passes)] (vb res) := by
  refine PCall.of_awp tt_ok (N := 37) Try.func70 rfl (by kernel_rfl) rfl (Nat.le_of_ble_eq_true rfl) rfl ?_
  unfold F70v1 at h
  refine awp_sreg tt_ok (ks := [2, 3, 4]) (hs := []) [(2, vb passes), (3, .ref 0 0), (4, .ref 1 0)] [.cells [vb p_a.Is, .d (L3 p_a.Surface), vi p_a.Plaster, vi p_a.Many], .cells [vb p_b.Is, .d (L3 p_b.Surface), vi p_b.Plaster, vi p_b.Many]] [] (by kernel_rfl) trivial ?_
  refine awp_sdraw tt_ok mixed (ks := [2, 7, 8, 9, 10]) (hs := []) 11 [2, 7, 8, 9, 10, 18] [(2, vb passes), (7, vi p_a.Plaster), (8, vi p_b.Plaster), (9, vi p_a.Many), (10, vi p_b.Many)] [.cells [vb p_a.Is, .d (L3 p_a.Surface), vi p_a.Plaster, vi p_a.Many], .cells [vb p_b.Is, .d (L3 p_b.Surface), vi p_b.Plaster, vi p_b.Many]] [] (by kernel_rfl) trivial ?_
  refine awp_seq ?_
  refine awp_sreg tt_ok (ks := [7, 8, 9, 10, 19]) (hs := []) [(7, vi p_a.Plaster), (8, vi p_b.Plaster), (9, vi p_a.Many), (10, vi p_b.Many), (19, vb passes)] [.cells [vb p_a.Is, .d (L3 p_a.Surface), vi p_a.Plaster, vi p_a.Many], .cells [vb p_b.Is, .d (L3 p_b.Surface), vi p_b.Plaster, vi p_b.Many]] [] (by kernel_rfl) trivial ?_
  refine awp_cond (b := passes) (by kernel_rfl) (fun hb1 => ?_) (fun hb1 => ?_)
  · rw [if_pos hb1] at h
    refine awp_region (T' := [(7, vi p_a.Many), (8, vi p_b.Many), (9, vi p_a.Plaster), (10, vi p_b.Plaster)]) (H' := [.cells [vb p_a.Is, .d (L3 p_a.Surface), vi p_a.Plaster, vi p_a.Many], .cells [vb p_b.Is, .d (L3 p_b.Surface), vi p_b.Plaster, vi p_b.Many]]) (ps := []) tt_ok (ks := [7, 8, 9, 10]) (hs := []) (by kernel_rfl) trivial ?_
    show awp _ _ _ _ _ _ _ _
    refine awp_sreg tt_ok (ks := [6]) (hs := [.no, .no, .no, .no, .no, .no, .no, .no, .no, .no, .no, .own]) [(6, vb (cond (decide (p_a.Many < p_b.Many)) true (cond (p_a.Many == p_b.Many) (decide (p_a.Plaster < p_b.Plaster)) false)))] [.cells [vb p_a.Is, .d (L3 p_a.Surface), vi p_a.Plaster, vi p_a.Many], .cells [vb p_b.Is, .d (L3 p_b.Surface), vi p_b.Plaster, vi p_b.Many]] [((!(decide (p_a.Many < p_b.Many))) = true → (!(decide (p_a.Many < p_b.Many))) = true), ((!(decide (p_a.Many < p_b.Many))) = true → (!(decide (p_a.Many < p_b.Many))) = true), ((!(decide (p_a.Many < p_b.Many))) = true → (!(decide (p_a.Many < p_b.Many))) = true), (((!(decide (p_a.Many < p_b.Many))) && (p_a.Many == p_b.Many)) = true → ((!(decide (p_a.Many < p_b.Many))) && (p_a.Many == p_b.Many)) = true), (((!(decide (p_a.Many < p_b.Many))) && (p_a.Many == p_b.Many)) = true → ((!(decide (p_a.Many < p_b.Many))) && (p_a.Many == p_b.Many)) = true), ((!(decide (p_a.Many < p_b.Many))) = true → (!(decide (p_a.Many < p_b.Many))) = true), ((!(decide (p_a.Many < p_b.Many))) = true → (p_a.Many == p_b.Many) = true → ((!(decide (p_a.Many < p_b.Many))) && (p_a.Many == p_b.Many)) = true), ((decide (p_a.Many < p_b.Many)) = false → (!(decide (p_a.Many < p_b.Many))) = true)] (by kernel_rfl) (And.intro (id) (And.intro (id) (And.intro (id) (And.intro (id) (And.intro (id) (And.intro (id) (And.intro ((fun hg h1 => by first | exact hg | exact h1 | (rw [hg, h1]; rfl) | (simp only [hg, h1, Bool.not_true, Bool.not_false, Bool.and_self, Bool.true_and, Bool.and_true]; done) | (simp only [Bool.and_eq_true] at hg; simp only [hg, h1, Bool.not_true, Bool.not_false, Bool.and_self, Bool.true_and, Bool.and_true]; done) | simp_all)) (not_of)))))))) ?_
    obtain rfl := Option.some.inj h
    refine awp_wk 2 [6] (by kernel_rfl) [(6, vb (cond (decide (p_a.Many < p_b.Many)) true (cond (p_a.Many == p_b.Many) (decide (p_a.Plaster < p_b.Plaster)) false)))] [.cells [vb p_a.Is, .d (L3 p_a.Surface), vi p_a.Plaster, vi p_a.Many], .cells [vb p_b.Is, .d (L3 p_b.Surface), vi p_b.Plaster, vi p_b.Many]] (by kernel_rfl) (by kernel_rfl) ?_
    exact awp_ret (main_ret (by kernel_rfl))
  · rw [if_neg (ntrue hb1)] at h
    refine awp_skip ?_
    show awp _ _ _ _ _ _ _ _
    refine awp_sreg tt_ok (ks := [6]) (hs := [.no, .no, .no, .no, .no, .no, .no, .no, .no, .no, .no, .own]) [(6, vb (cond (decide (p_a.Plaster < p_b.Plaster)) true (cond (p_a.Plaster == p_b.Plaster) (decide (p_a.Many < p_b.Many)) false)))] [.cells [vb p_a.Is, .d (L3 p_a.Surface), vi p_a.Plaster, vi p_a.Many], .cells [vb p_b.Is, .d (L3 p_b.Surface), vi p_b.Plaster, vi p_b.Many]] [((!(decide (p_a.Plaster < p_b.Plaster))) = true → (!(decide (p_a.Plaster < p_b.Plaster))) = true), ((!(decide (p_a.Plaster < p_b.Plaster))) = true → (!(decide (p_a.Plaster < p_b.Plaster))) = true), ((!(decide (p_a.Plaster < p_b.Plaster))) = true → (!(decide (p_a.Plaster < p_b.Plaster))) = true), (((!(decide (p_a.Plaster < p_b.Plaster))) && (p_a.Plaster == p_b.Plaster)) = true → ((!(decide (p_a.Plaster < p_b.Plaster))) && (p_a.Plaster == p_b.Plaster)) = true), (((!(decide (p_a.Plaster < p_b.Plaster))) && (p_a.Plaster == p_b.Plaster)) = true → ((!(decide (p_a.Plaster < p_b.Plaster))) && (p_a.Plaster == p_b.Plaster)) = true), ((!(decide (p_a.Plaster < p_b.Plaster))) = true → (!(decide (p_a.Plaster < p_b.Plaster))) = true), ((!(decide (p_a.Plaster < p_b.Plaster))) = true → (p_a.Plaster == p_b.Plaster) = true → ((!(decide (p_a.Plaster < p_b.Plaster))) && (p_a.Plaster == p_b.Plaster)) = true), ((decide (p_a.Plaster < p_b.Plaster)) = false → (!(decide (p_a.Plaster < p_b.Plaster))) = true)] (by kernel_rfl) (And.intro (id) (And.intro (id) (And.intro (id) (And.intro (id) (And.intro (id) (And.intro (id) (And.intro ((fun hg h1 => by first | exact hg | exact h1 | (rw [hg, h1]; rfl) | (simp only [hg, h1, Bool.not_true, Bool.not_false, Bool.and_self, Bool.true_and, Bool.and_true]; done) | (simp only [Bool.and_eq_true] at hg; simp only [hg, h1, Bool.not_true, Bool.not_false, Bool.and_self, Bool.true_and, Bool.and_true]; done) | simp_all)) (not_of)))))))) ?_
    obtain rfl := Option.some.inj h
    refine awp_wk 2 [6] (by kernel_rfl) [(6, vb (cond (decide (p_a.Plaster < p_b.Plaster)) true (cond (p_a.Plaster == p_b.Plaster) (decide (p_a.Many < p_b.Many)) false)))] [.cells [vb p_a.Is, .d (L3 p_a.Surface), vi p_a.Plaster, vi p_a.Many], .cells [vb p_b.Is, .d (L3 p_b.Surface), vi p_b.Plaster, vi p_b.Many]] (by kernel_rfl) (by kernel_rfl) ?_
    exact awp_ret (main_ret (by kernel_rfl))

set_option maxRecDepth 100000 in
theorem ct69 {fuel : Nat}  {p_r : S_api_CvRow} {at_ : Int} {next : (List S_hachureref04qRest)} {passes : Bool} {res : (List S_hachureref04qRest)} (h : F69 fuel p_r at_ next passes = some res) : PCall Try.prog 69 [(.agg [(di p_r.Steep), (L58 p_r.Points)]), (di at_), dnil, (db passes)] (.d (L107 res)) := by
  refine PCall.of_awp tt_ok (N := 124) Try.func69 rfl (by kernel_rfl) rfl (Nat.le_of_ble_eq_true rfl) rfl ?_
  unfold F69 at h
  refine awp_sreg tt_ok (ks := [1, 2, 3, 4]) (hs := []) [(1, vi at_), (2, .d dnil), (3, vb passes), (4, .ref 0 0)] [.cells [vi p_r.Steep, .d (L58 p_r.Points)]] [] (by kernel_rfl) trivial ?_
  obtain ⟨x1, hx1, h⟩ := Option.bind_eq_some_iff.1 h
  refine awp_sreg tt_ok (ks := [1, 2, 3, 4, 9]) (hs := [.no, .no, .no, .cells (cel58 x1)]) [(1, vi at_), (2, .d dnil), (3, vb passes), (4, .ref 0 0), (9, .ref 1 0)] [.cells [vi p_r.Steep, .d (L58 p_r.Points)], .cells [vi x1.Board, vi x1.Lo, vi x1.Hi]] [IX58 p_r.Points at_ x1] (by kernel_rfl) (idxOk cel58_len hx1) ?_
  refine awp_sreg tt_ok (ks := [1, 2, 3, 4, 9, 10]) (hs := []) [(1, vi at_), (2, .d dnil), (3, vb passes), (4, .ref 0 0), (9, .ref 1 0), (10, .d dnil)] [.cells [vi p_r.Steep, .d (L58 p_r.Points)], .cells [vi x1.Board, vi x1.Lo, vi x1.Hi]] [] (by kernel_rfl) trivial ?_
  refine awp_seq ?_
  refine awp_sreg tt_ok (ks := [1, 2, 3, 4, 9, 10, 11]) (hs := []) [(1, vi at_), (2, .d dnil), (3, vb passes), (4, .ref 0 0), (9, .ref 1 0), (10, .d dnil), (11, vi x1.Lo)] [.cells [vi p_r.Steep, .d (L58 p_r.Points)], .cells [vi x1.Board, vi x1.Lo, vi x1.Hi]] [] (by kernel_rfl) trivial ?_
  refine awp_laxT 2 _ (L107 ([] : List S_hachureref04qRest)) [(2, .d (L107 ([] : List S_hachureref04qRest))), (1, vi at_), (3, vb passes), (4, .ref 0 0), (9, .ref 1 0), (10, .d dnil), (11, vi x1.Lo)] (by kernel_rfl) (.nil (e := 4)) (by kernel_rfl) ?_
  refine awp_wk 2 [1, 2, 3, 4, 9, 10, 11] (by kernel_rfl) [(1, vi at_), (2, .d (L107 ([] : List S_hachureref04qRest))), (3, vb passes), (4, .ref 0 0), (9, .ref 1 0), (10, .d dnil), (11, vi x1.Lo)] [.cells [vi p_r.Steep, .d (L58 p_r.Points)], .cells [vi x1.Board, vi x1.Lo, vi x1.Hi]] (by kernel_rfl) (by kernel_rfl) ?_
  refine awp_nil 10 4 (by kernel_rfl) ?_
  refine awp_eq (T' := [(10, .sl 4 2 0 ([] : List S_hachureref04qRest).length), (1, vi at_), (2, .d (L107 ([] : List S_hachureref04qRest))), (3, vb passes), (4, .ref 0 0), (9, .ref 1 0), (11, vi x1.Lo)]) (H' := [.cells [vi p_r.Steep, .d (L58 p_r.Points)], .cells [vi x1.Board, vi x1.Lo, vi x1.Hi], .data (([] : List S_hachureref04qRest).flatMap cel107)]) (by kernel_rfl) (by kernel_rfl) ?_
  refine awp_wk 3 [1, 2, 3, 4, 9, 10, 11] (by kernel_rfl) [(1, vi at_), (2, .d (L107 ([] : List S_hachureref04qRest))), (3, vb passes), (4, .ref 0 0), (9, .ref 1 0), (10, .sl 4 2 0 ([] : List S_hachureref04qRest).length), (11, vi x1.Lo)] [.cells [vi p_r.Steep, .d (L58 p_r.Points)], .cells [vi x1.Board, vi x1.Lo, vi x1.Hi], .data (([] : List S_hachureref04qRest).flatMap cel107)] (by kernel_rfl) (by kernel_rfl) ?_
  obtain ⟨o4, ho4, h⟩ := Option.bind_eq_some_iff.1 h
  refine awp_cut1 (OutQ (fun (ro4 : (List S_hachureref04qRest)) => [(8, .d (L107 ro4))]) (fun (ro4 : (List S_hachureref04qRest)) => []) (fun (so4 : (List S_hachureref04qRest)) => [(10, .sl 4 2 0 so4.length)]) (fun (so4 : (List S_hachureref04qRest)) => [.cells [vi p_r.Steep, .d (L58 p_r.Points)], .cells [vi x1.Board, vi x1.Lo, vi x1.Hi], .data (so4.flatMap cel107)]) o4) ?_ ?_
  · clear h
    have h := ho4
    clear ho4
    refine awp_selQ ?_
    refine awp_wk 3 [1, 2, 3, 4, 9, 10, 11] (by kernel_rfl) [(1, vi at_), (2, .d (L107 ([] : List S_hachureref04qRest))), (3, vb passes), (4, .ref 0 0), (9, .ref 1 0), (10, .sl 4 2 0 ([] : List S_hachureref04qRest).length), (11, vi x1.Lo)] [.cells [vi p_r.Steep, .d (L58 p_r.Points)], .cells [vi x1.Board, vi x1.Lo, vi x1.Hi], .data (([] : List S_hachureref04qRest).flatMap cel107)] (by kernel_rfl) (by kernel_rfl) ?_
    refine awp_block ?_
    refine awp_loop (n := fuel) ?_
    refine awpN_ind (fun n (c5 : Int × (List S_hachureref04qRest)) => F69L1 fuel p_r at_ passes x1 n c5) o4 (fun (c5 : Int × (List S_hachureref04qRest)) => [(1, vi at_), (2, .d (L107 ([] : List S_hachureref04qRest))), (3, vb passes), (4, .ref 0 0), (9, .ref 1 0), (10, .sl 4 2 0 c5.2.length), (11, vi c5.1)]) (fun (c5 : Int × (List S_hachureref04qRest)) => [.cells [vi p_r.Steep, .d (L58 p_r.Points)], .cells [vi x1.Board, vi x1.Lo, vi x1.Hi], .data (c5.2.flatMap cel107)]) (fun _ => rfl) ?_ fuel (x1.Lo, ([] : List S_hachureref04qRest)) h
    clear h
    intro n6 c5 h hrn6
    change F69L1 fuel p_r at_ passes x1 (n6 + 1) c5 = some o4 at h
    rw [F69L1] at h
    refine awp_seq ?_
    refine awp_sreg tt_ok (ks := [1, 2, 3, 4, 9, 10, 11, 27]) (hs := []) [(1, vi at_), (2, .d (L107 ([] : List S_hachureref04qRest))), (3, vb passes), (4, .ref 0 0), (9, .ref 1 0), (10, .sl 4 2 0 c5.2.length), (11, vi c5.1), (27, vb (decide (c5.1 ≤ x1.Hi)))] [.cells [vi p_r.Steep, .d (L58 p_r.Points)], .cells [vi x1.Board, vi x1.Lo, vi x1.Hi], .data (c5.2.flatMap cel107)] [] (by kernel_rfl) trivial ?_
    refine awp_cond (b := (decide (c5.1 ≤ x1.Hi))) (by kernel_rfl) (fun hb7 => ?_) (fun hb7 => ?_)
    · rw [if_pos hb7] at h
      refine awp_skip ?_
      show awp _ _ _ _ _ _ _ _
      refine awp_seq ?_
      refine awp_block ?_
      refine awp_seq ?_
      refine awp_sreg tt_ok (ks := [1, 2, 3, 4, 9, 10, 11, 35]) (hs := []) [(1, vi at_), (2, .d (L107 ([] : List S_hachureref04qRest))), (3, vb passes), (4, .ref 0 0), (9, .ref 1 0), (10, .sl 4 2 0 c5.2.length), (11, vi c5.1), (35, vb (at_ == (w64 ((p_r.Points.length : Int) - 1))))] [.cells [vi p_r.Steep, .d (L58 p_r.Points)], .cells [vi x1.Board, vi x1.Lo, vi x1.Hi], .data (c5.2.flatMap cel107)] [] (by kernel_rfl) trivial ?_
      refine awp_cond (b := (at_ == (w64 ((p_r.Points.length : Int) - 1)))) (by kernel_rfl) (fun hb8 => ?_) (fun hb8 => ?_)
      · rw [if_pos hb8] at h
        obtain ⟨x9, hx9, h⟩ := Option.bind_eq_some_iff.1 h
        refine awp_sreg tt_ok (ks := [1, 2, 3, 4, 9, 10, 11]) (hs := [.no, .cells [(db true), (L3 ([] : List Int)), (di 0), (di 0)], .no, .list (c5.2 ++ ([(⟨true, ([] : List Int), 0, 0⟩ : S_hachureref04qRest)] : List S_hachureref04qRest)).length ((c5.2 ++ ([(⟨true, ([] : List Int), 0, 0⟩ : S_hachureref04qRest)] : List S_hachureref04qRest)).flatMap cel107)]) [(1, vi at_), (2, .d (L107 ([] : List S_hachureref04qRest))), (3, vb passes), (4, .ref 0 0), (9, .ref 1 0), (10, .sl 4 2 0 (c5.2 ++ ([(⟨true, ([] : List Int), 0, 0⟩ : S_hachureref04qRest)] : List S_hachureref04qRest)).length), (11, vi c5.1)] [.cells [vi p_r.Steep, .d (L58 p_r.Points)], .cells [vi x1.Board, vi x1.Lo, vi x1.Hi], .data ((c5.2 ++ ([(⟨true, ([] : List Int), 0, 0⟩ : S_hachureref04qRest)] : List S_hachureref04qRest)).flatMap cel107)] [LeDs [(db true), dnil, (di 0), (di 0)] [(db true), (L3 ([] : List Int)), (di 0), (di 0)], AppendOk ((c5.2.flatMap cel107).map .d) c5.2.length ([(⟨true, ([] : List Int), 0, 0⟩ : S_hachureref04qRest)] : List S_hachureref04qRest).length (c5.2 ++ ([(⟨true, ([] : List Int), 0, 0⟩ : S_hachureref04qRest)] : List S_hachureref04qRest)).length 4 48 (([(⟨true, ([] : List Int), 0, 0⟩ : S_hachureref04qRest)] : List S_hachureref04qRest).flatMap cel107) ((c5.2 ++ ([(⟨true, ([] : List Int), 0, 0⟩ : S_hachureref04qRest)] : List S_hachureref04qRest)).flatMap cel107)] (by kernel_rfl) (And.intro ((.cons (.rfl) (.cons (.nil (e := 1)) (.cons (.rfl) (.cons (.rfl) (.nil)))))) (appendOk cel107_len (need_of hx9))) ?_
        refine awp_exit ?_
        show awp _ _ _ _ _ _ _ _
        refine awp_region (T' := [(1, vi at_), (2, .d (L107 ([] : List S_hachureref04qRest))), (3, vb passes), (4, .ref 0 0), (9, .ref 1 0), (10, .sl 4 2 0 (c5.2 ++ ([(⟨true, ([] : List Int), 0, 0⟩ : S_hachureref04qRest)] : List S_hachureref04qRest)).length), (11, vi (w64 (c5.1 + 1)))]) (H' := [.cells [vi p_r.Steep, .d (L58 p_r.Points)], .cells [vi x1.Board, vi x1.Lo, vi x1.Hi], .data ((c5.2 ++ ([(⟨true, ([] : List Int), 0, 0⟩ : S_hachureref04qRest)] : List S_hachureref04qRest)).flatMap cel107)]) (ps := []) tt_ok (ks := [1, 2, 3, 4, 9, 10, 11]) (hs := []) (by kernel_rfl) trivial ?_
        exact awpN_wk 3 [1, 2, 3, 4, 9, 10, 11] (by kernel_rfl) _ _ (by kernel_rfl) (by kernel_rfl) (hrn6 ((w64 (c5.1 + 1)), (c5.2 ++ ([(⟨true, ([] : List Int), 0, 0⟩ : S_hachureref04qRest)] : List S_hachureref04qRest))) h)
      · rw [if_neg (ntrue hb8)] at h
        refine awp_skip ?_
        show awp _ _ _ _ _ _ _ _
        obtain ⟨x10, hx10, h⟩ := Option.bind_eq_some_iff.1 h
        refine awp_sreg tt_ok (ks := [1, 2, 3, 4, 9, 10, 11, 12]) (hs := [.no, .no, .no, .no, .cells (cel58 x10)]) [(1, vi at_), (2, .d (L107 ([] : List S_hachureref04qRest))), (3, vb passes), (4, .ref 0 0), (9, .ref 1 0), (10, .sl 4 2 0 c5.2.length), (11, vi c5.1), (12, .ref 3 0)] [.cells [vi p_r.Steep, .d (L58 p_r.Points)], .cells [vi x1.Board, vi x1.Lo, vi x1.Hi], .data (c5.2.flatMap cel107), .cells [vi x10.Board, vi x10.Lo, vi x10.Hi]] [IX58 p_r.Points (w64 (at_ + 1)) x10] (by kernel_rfl) (idxOk cel58_len hx10) ?_
        refine awp_sreg tt_ok (ks := [1, 2, 3, 4, 9, 10, 11, 12, 13]) (hs := []) [(1, vi at_), (2, .d (L107 ([] : List S_hachureref04qRest))), (3, vb passes), (4, .ref 0 0), (9, .ref 1 0), (10, .sl 4 2 0 c5.2.length), (11, vi c5.1), (12, .ref 3 0), (13, .ref 4 0)] [.cells [vi p_r.Steep, .d (L58 p_r.Points)], .cells [vi x1.Board, vi x1.Lo, vi x1.Hi], .data (c5.2.flatMap cel107), .cells [vi x10.Board, vi x10.Lo, vi x10.Hi], .cells [vb false, .d dnil, vi 0, vi 0]] [] (by kernel_rfl) trivial ?_
        refine awp_seq ?_
        refine awp_sreg tt_ok (ks := [1, 2, 3, 4, 9, 10, 11, 12, 13, 14]) (hs := []) [(1, vi at_), (2, .d (L107 ([] : List S_hachureref04qRest))), (3, vb passes), (4, .ref 0 0), (9, .ref 1 0), (10, .sl 4 2 0 c5.2.length), (11, vi c5.1), (12, .ref 3 0), (13, .ref 4 0), (14, vi 0)] [.cells [vi p_r.Steep, .d (L58 p_r.Points)], .cells [vi x1.Board, vi x1.Lo, vi x1.Hi], .data (c5.2.flatMap cel107), .cells [vi x10.Board, vi x10.Lo, vi x10.Hi], .cells [vb false, .d dnil, vi 0, vi 0]] [] (by kernel_rfl) trivial ?_
        refine awp_laxC 4 1 _ (L3 ([] : List Int)) [vb false, .d dnil, vi 0, vi 0] [.cells [vi p_r.Steep, .d (L58 p_r.Points)], .cells [vi x1.Board, vi x1.Lo, vi x1.Hi], .data (c5.2.flatMap cel107), .cells [vi x10.Board, vi x10.Lo, vi x10.Hi], .cells [vb false, .d (L3 ([] : List Int)), vi 0, vi 0]] (by kernel_rfl) (by kernel_rfl) (.nil (e := 1)) (by kernel_rfl) ?_
        refine awp_wk 5 [1, 2, 3, 4, 9, 10, 11, 12, 13, 14] (by kernel_rfl) [(1, vi at_), (2, .d (L107 ([] : List S_hachureref04qRest))), (3, vb passes), (4, .ref 0 0), (9, .ref 1 0), (10, .sl 4 2 0 c5.2.length), (11, vi c5.1), (12, .ref 3 0), (13, .ref 4 0), (14, vi 0)] [.cells [vi p_r.Steep, .d (L58 p_r.Points)], .cells [vi x1.Board, vi x1.Lo, vi x1.Hi], .data (c5.2.flatMap cel107), .cells [vi x10.Board, vi x10.Lo, vi x10.Hi], .cells [vb false, .d (L3 ([] : List Int)), vi 0, vi 0]] (by kernel_rfl) (by kernel_rfl) ?_
        obtain ⟨o12, ho12, h⟩ := Option.bind_eq_some_iff.1 h
        refine awp_cut1 (OutQ (fun (ro12 : (List S_hachureref04qRest)) => [(8, .d (L107 ro12))]) (fun (ro12 : (List S_hachureref04qRest)) => []) (fun (so12 : Bool × (List Int) × Int × Int) => [(1, vi at_), (2, .d (L107 ([] : List S_hachureref04qRest))), (3, vb passes), (4, .ref 0 0), (9, .ref 1 0), (10, .sl 4 2 0 c5.2.length), (11, vi c5.1), (13, .ref 4 0)]) (fun (so12 : Bool × (List Int) × Int × Int) => [.cells [vi p_r.Steep, .d (L58 p_r.Points)], .cells [vi x1.Board, vi x1.Lo, vi x1.Hi], .data (c5.2.flatMap cel107), .cells [vi x10.Board, vi x10.Lo, vi x10.Hi], .cells [vb so12.1, .d (L3 so12.2.1), vi so12.2.2.1, vi so12.2.2.2]]) o12) ?_ ?_
        · clear h
          have h := ho12
          clear ho12
          refine awp_selQ ?_
          refine awp_wk 5 [1, 2, 3, 4, 9, 10, 11, 12, 13, 14] (by kernel_rfl) [(1, vi at_), (2, .d (L107 ([] : List S_hachureref04qRest))), (3, vb passes), (4, .ref 0 0), (9, .ref 1 0), (10, .sl 4 2 0 c5.2.length), (11, vi c5.1), (12, .ref 3 0), (13, .ref 4 0), (14, vi 0)] [.cells [vi p_r.Steep, .d (L58 p_r.Points)], .cells [vi x1.Board, vi x1.Lo, vi x1.Hi], .data (c5.2.flatMap cel107), .cells [vi x10.Board, vi x10.Lo, vi x10.Hi], .cells [vb false, .d (L3 ([] : List Int)), vi 0, vi 0]] (by kernel_rfl) (by kernel_rfl) ?_
          refine awp_block ?_
          refine awp_loop (n := fuel) ?_
          refine awpN_ind (fun n (c13 : Int × Bool × (List Int) × Int × Int) => F69L2 p_r passes x1 c5 x10 n c13) o12 (fun (c13 : Int × Bool × (List Int) × Int × Int) => [(1, vi at_), (2, .d (L107 ([] : List S_hachureref04qRest))), (3, vb passes), (4, .ref 0 0), (9, .ref 1 0), (10, .sl 4 2 0 c5.2.length), (11, vi c5.1), (12, .ref 3 0), (13, .ref 4 0), (14, vi c13.1)]) (fun (c13 : Int × Bool × (List Int) × Int × Int) => [.cells [vi p_r.Steep, .d (L58 p_r.Points)], .cells [vi x1.Board, vi x1.Lo, vi x1.Hi], .data (c5.2.flatMap cel107), .cells [vi x10.Board, vi x10.Lo, vi x10.Hi], .cells [vb c13.2.1, .d (L3 c13.2.2.1), vi c13.2.2.2.1, vi c13.2.2.2.2]]) (fun _ => rfl) ?_ fuel (0, false, ([] : List Int), 0, 0) h
          clear h
          intro n14 c13 h hrn14
          change F69L2 p_r passes x1 c5 x10 (n14 + 1) c13 = some o12 at h
          rw [F69L2] at h
          refine awp_seq ?_
          refine awp_sreg tt_ok (ks := [1, 2, 3, 4, 9, 10, 11, 12, 13, 14, 49]) (hs := []) [(1, vi at_), (2, .d (L107 ([] : List S_hachureref04qRest))), (3, vb passes), (4, .ref 0 0), (9, .ref 1 0), (10, .sl 4 2 0 c5.2.length), (11, vi c5.1), (12, .ref 3 0), (13, .ref 4 0), (14, vi c13.1), (49, vb (decide (c13.1 < (([] : List S_hachureref04qRest).length : Int))))] [.cells [vi p_r.Steep, .d (L58 p_r.Points)], .cells [vi x1.Board, vi x1.Lo, vi x1.Hi], .data (c5.2.flatMap cel107), .cells [vi x10.Board, vi x10.Lo, vi x10.Hi], .cells [vb c13.2.1, .d (L3 c13.2.2.1), vi c13.2.2.2.1, vi c13.2.2.2.2]] [] (by kernel_rfl) trivial ?_
          refine awp_cond (b := (decide (c13.1 < (([] : List S_hachureref04qRest).length : Int)))) (by kernel_rfl) (fun hb15 => ?_) (fun hb15 => ?_)
          · rw [if_pos hb15] at h
            refine awp_skip ?_
            show awp _ _ _ _ _ _ _ _
            refine awp_seq ?_
            refine awp_block ?_
            refine awp_sreg tt_ok (ks := [1, 2, 3, 4, 9, 10, 11, 12, 13, 14, 15]) (hs := []) [(1, vi at_), (2, .d (L107 ([] : List S_hachureref04qRest))), (3, vb passes), (4, .ref 0 0), (9, .ref 1 0), (10, .sl 4 2 0 c5.2.length), (11, vi c5.1), (12, .ref 3 0), (13, .ref 4 0), (14, vi c13.1), (15, vi (w64 (x10.Lo + c13.1)))] [.cells [vi p_r.Steep, .d (L58 p_r.Points)], .cells [vi x1.Board, vi x1.Lo, vi x1.Hi], .data (c5.2.flatMap cel107), .cells [vi x10.Board, vi x10.Lo, vi x10.Hi], .cells [vb c13.2.1, .d (L3 c13.2.2.1), vi c13.2.2.2.1, vi c13.2.2.2.2]] [] (by kernel_rfl) trivial ?_
            refine awp_seq ?_
            obtain ⟨x16, hx16, h⟩ := Option.bind_eq_some_iff.1 h
            obtain ⟨x17, hx17, h⟩ := Option.bind_eq_some_iff.1 h
            refine awp_sdraw tt_ok mixed (ks := [1, 2, 3, 4, 9, 10, 11, 12, 13, 14, 15, 69]) (hs := [.no, .no, .cells (cel107 x16), .no, .no, .no, .no, .no, .no, .call [(di c5.1), (di (w64 (x10.Lo + c13.1)))] (vi x17)]) 12 [1, 2, 3, 4, 9, 10, 11, 12, 13, 14, 15, 62, 65, 67, 68, 69] [(1, vi at_), (2, .d (L107 ([] : List S_hachureref04qRest))), (3, vb passes), (4, .ref 0 0), (9, .ref 1 0), (10, .sl 4 2 0 c5.2.length), (11, vi c5.1), (12, .ref 3 0), (13, .ref 4 0), (14, vi c13.1), (15, vi (w64 (x10.Lo + c13.1))), (69, vb (cond (!x16.Is) true (decide (x17 > p_r.Steep))))] [.cells [vi p_r.Steep, .d (L58 p_r.Points)], .cells [vi x1.Board, vi x1.Lo, vi x1.Hi], .data (c5.2.flatMap cel107), .cells [vi x10.Board, vi x10.Lo, vi x10.Hi], .cells [vb c13.2.1, .d (L3 c13.2.2.1), vi c13.2.2.2.1, vi c13.2.2.2.2]] [IX107 ([] : List S_hachureref04qRest) c13.1 x16, ((!(!x16.Is)) = true → (!(!x16.Is)) = true), ((!(!x16.Is)) = true → (!(!x16.Is)) = true), ((!(!x16.Is)) = true → PCall Try.prog 53 [(di c5.1), (di (w64 (x10.Lo + c13.1)))] (vi x17)), ((!(!x16.Is)) = true → (!(!x16.Is)) = true), ((!(!x16.Is)) = true → (!(!x16.Is)) = true), ((!(!x16.Is)) = true → (!(!x16.Is)) = true), ((!x16.Is) = false → (!(!x16.Is)) = true)] (by kernel_rfl) (And.intro (idxOk cel107_len hx16) (And.intro (id) (And.intro (id) (And.intro ((fun hg => ct53 (optG_of hx17 hg))) (And.intro (id) (And.intro (id) (And.intro (id) (not_of)))))))) ?_
            refine awp_cond (b := (cond (!x16.Is) true (decide (x17 > p_r.Steep)))) (by kernel_rfl) (fun hb18 => ?_) (fun hb18 => ?_)
            · rw [if_pos hb18] at h
              refine awp_exit ?_
              show awp _ _ _ _ _ _ _ _
              refine awp_region (T' := [(1, vi at_), (2, .d (L107 ([] : List S_hachureref04qRest))), (3, vb passes), (4, .ref 0 0), (9, .ref 1 0), (10, .sl 4 2 0 c5.2.length), (11, vi c5.1), (12, .ref 3 0), (13, .ref 4 0), (14, vi (w64 (c13.1 + 1)))]) (H' := [.cells [vi p_r.Steep, .d (L58 p_r.Points)], .cells [vi x1.Board, vi x1.Lo, vi x1.Hi], .data (c5.2.flatMap cel107), .cells [vi x10.Board, vi x10.Lo, vi x10.Hi], .cells [vb c13.2.1, .d (L3 c13.2.2.1), vi c13.2.2.2.1, vi c13.2.2.2.2]]) (ps := []) tt_ok (ks := [1, 2, 3, 4, 9, 10, 11, 12, 13, 14]) (hs := []) (by kernel_rfl) trivial ?_
              exact awpN_wk 5 [1, 2, 3, 4, 9, 10, 11, 12, 13, 14] (by kernel_rfl) _ _ (by kernel_rfl) (by kernel_rfl) (hrn14 ((w64 (c13.1 + 1)), c13.2.1, c13.2.2.1, c13.2.2.2.1, c13.2.2.2.2) h)
            · rw [if_neg (ntrue hb18)] at h
              refine awp_skip ?_
              show awp _ _ _ _ _ _ _ _
              refine awp_res [.cells [vi p_r.Steep, .d (L58 p_r.Points)], .cells [vi x1.Board, vi x1.Lo, vi x1.Hi], .data (c5.2.flatMap cel107), .cells [vi x10.Board, vi x10.Lo, vi x10.Hi], .cells [vb c13.2.1, .d (L3 c13.2.2.1), vi c13.2.2.2.1, vi c13.2.2.2.2], .data []] (by kernel_rfl) ?_
              obtain ⟨x19, hx19, h⟩ := Option.bind_eq_some_iff.1 h
              obtain ⟨x20, hx20, h⟩ := Option.bind_eq_some_iff.1 h
              obtain ⟨x21, hx21, h⟩ := Option.bind_eq_some_iff.1 h
              refine awp_seq (awp_any (T' := [(1, vi at_), (2, .d (L107 ([] : List S_hachureref04qRest))), (3, vb passes), (4, .ref 0 0), (9, .ref 1 0), (10, .sl 4 2 0 c5.2.length), (11, vi c5.1), (12, .ref 3 0), (13, .ref 4 0), (14, vi c13.1), (15, vi (w64 (x10.Lo + c13.1))), (16, .ref 5 0)]) (H' := [.cells [vi p_r.Steep, .d (L58 p_r.Points)], .cells [vi x1.Board, vi x1.Lo, vi x1.Hi], .data (c5.2.flatMap cel107), .cells [vi x10.Board, vi x10.Lo, vi x10.Hi], .cells [vb c13.2.1, .d (L3 c13.2.2.1), vi c13.2.2.2.1, vi c13.2.2.2.2], .cells [vb true, .d (L3 (([(w64 (x10.Lo + c13.1))] : List Int) ++ x19.Surface)), vi (w64 (x21.Plaster + (if (w64 ((w64 (x10.Lo + c13.1)) - x10.Board)) > 0 then (w64 ((w64 (x10.Lo + c13.1)) - x10.Board)) else 0))), vi 0]]) (ps := [IX107 ([] : List S_hachureref04qRest) c13.1 x19, AppendOk ((([(w64 (x10.Lo + c13.1))] : List Int).flatMap cel3).map .d) ([(w64 (x10.Lo + c13.1))] : List Int).length x19.Surface.length (([(w64 (x10.Lo + c13.1))] : List Int) ++ x19.Surface).length 1 8 (x19.Surface.flatMap cel3) ((([(w64 (x10.Lo + c13.1))] : List Int) ++ x19.Surface).flatMap cel3), IX107 ([] : List S_hachureref04qRest) c13.1 x21]) tt_ok mixed (ks := [1, 2, 3, 4, 9, 10, 11, 12, 13, 14, 15, 16]) (hs := [.no, .cells [], .no, .no, .cells (cel107 x19), .no, .no, .listT (([(w64 (x10.Lo + c13.1))] : List Int) ++ x19.Surface).length ((([(w64 (x10.Lo + c13.1))] : List Int) ++ x19.Surface).flatMap cel3), .no, .no, .cells (cel107 x21), .no, .no, .no, .no, .no, .no, .no, .no, .no, .res 5]) (m := 21) (mid := [1, 2, 3, 4, 9, 10, 11, 12, 13, 14, 15, 16, 89]) (by kernel_rfl) (And.intro (idxOk cel107_len hx19) (And.intro (appendOk cel3_len (need_of hx20)) (idxOk cel107_len hx21))) ?_)
              show awp _ _ _ _ _ _ _ _
              obtain ⟨x22, hx22, h⟩ := Option.bind_eq_some_iff.1 h
              refine awp_sdraw tt_ok mixed (ks := [1, 2, 3, 4, 9, 10, 11, 12, 13, 14, 16]) (hs := [.no, .no, .cells (cel107 x22)]) 17 [1, 2, 3, 4, 9, 10, 11, 12, 13, 14, 16, 94, 106, 107, 108] [(1, vi at_), (2, .d (L107 ([] : List S_hachureref04qRest))), (3, vb passes), (4, .ref 0 0), (9, .ref 1 0), (10, .sl 4 2 0 c5.2.length), (11, vi c5.1), (12, .ref 3 0), (13, .ref 4 0), (14, vi c13.1), (16, .ref 5 0)] [.cells [vi p_r.Steep, .d (L58 p_r.Points)], .cells [vi x1.Board, vi x1.Lo, vi x1.Hi], .data (c5.2.flatMap cel107), .cells [vi x10.Board, vi x10.Lo, vi x10.Hi], .cells [vb c13.2.1, .d (L3 c13.2.2.1), vi c13.2.2.2.1, vi c13.2.2.2.2], .cells [vb true, .d (L3 (([(w64 (x10.Lo + c13.1))] : List Int) ++ x19.Surface)), vi (w64 (x21.Plaster + (if (w64 ((w64 (x10.Lo + c13.1)) - x10.Board)) > 0 then (w64 ((w64 (x10.Lo + c13.1)) - x10.Board)) else 0))), vi (w64 (x22.Many + (if (w64 ((if (w64 (x10.Board - (w64 (x10.Lo + c13.1)))) > 0 then (w64 (x10.Board - (w64 (x10.Lo + c13.1)))) else 0) - (if (w64 (x1.Board - c5.1)) > 0 then (w64 (x1.Board - c5.1)) else 0))) > 0 then (w64 ((if (w64 (x10.Board - (w64 (x10.Lo + c13.1)))) > 0 then (w64 (x10.Board - (w64 (x10.Lo + c13.1)))) else 0) - (if (w64 (x1.Board - c5.1)) > 0 then (w64 (x1.Board - c5.1)) else 0))) else 0)))]] [IX107 ([] : List S_hachureref04qRest) c13.1 x22] (by kernel_rfl) (idxOk cel107_len hx22) ?_
              obtain ⟨x23, hx23, h⟩ := Option.bind_eq_some_iff.1 h
              refine awp_sreg tt_ok (ks := [1, 2, 3, 4, 9, 10, 11, 12, 13, 14, 16, 117]) (hs := [.no, .no, .no, .no, .no, .no, .no, .call [(.agg [(db true), (L3 (([(w64 (x10.Lo + c13.1))] : List Int) ++ x19.Surface)), (di (w64 (x21.Plaster + (if (w64 ((w64 (x10.Lo + c13.1)) - x10.Board)) > 0 then (w64 ((w64 (x10.Lo + c13.1)) - x10.Board)) else 0)))), (di (w64 (x22.Many + (if (w64 ((if (w64 (x10.Board - (w64 (x10.Lo + c13.1)))) > 0 then (w64 (x10.Board - (w64 (x10.Lo + c13.1)))) else 0) - (if (w64 (x1.Board - c5.1)) > 0 then (w64 (x1.Board - c5.1)) else 0))) > 0 then (w64 ((if (w64 (x10.Board - (w64 (x10.Lo + c13.1)))) > 0 then (w64 (x10.Board - (w64 (x10.Lo + c13.1)))) else 0) - (if (w64 (x1.Board - c5.1)) > 0 then (w64 (x1.Board - c5.1)) else 0))) else 0))))]), (.agg [(db c13.2.1), (L3 c13.2.2.1), (di c13.2.2.2.1), (di c13.2.2.2.2)]), (db passes)] (vb x23)]) [(1, vi at_), (2, .d (L107 ([] : List S_hachureref04qRest))), (3, vb passes), (4, .ref 0 0), (9, .ref 1 0), (10, .sl 4 2 0 c5.2.length), (11, vi c5.1), (12, .ref 3 0), (13, .ref 4 0), (14, vi c13.1), (16, .ref 5 0), (117, vb (cond (!c13.2.1) true x23))] [.cells [vi p_r.Steep, .d (L58 p_r.Points)], .cells [vi x1.Board, vi x1.Lo, vi x1.Hi], .data (c5.2.flatMap cel107), .cells [vi x10.Board, vi x10.Lo, vi x10.Hi], .cells [vb c13.2.1, .d (L3 c13.2.2.1), vi c13.2.2.2.1, vi c13.2.2.2.2], .cells [vb true, .d (L3 (([(w64 (x10.Lo + c13.1))] : List Int) ++ x19.Surface)), vi (w64 (x21.Plaster + (if (w64 ((w64 (x10.Lo + c13.1)) - x10.Board)) > 0 then (w64 ((w64 (x10.Lo + c13.1)) - x10.Board)) else 0))), vi (w64 (x22.Many + (if (w64 ((if (w64 (x10.Board - (w64 (x10.Lo + c13.1)))) > 0 then (w64 (x10.Board - (w64 (x10.Lo + c13.1)))) else 0) - (if (w64 (x1.Board - c5.1)) > 0 then (w64 (x1.Board - c5.1)) else 0))) > 0 then (w64 ((if (w64 (x10.Board - (w64 (x10.Lo + c13.1)))) > 0 then (w64 (x10.Board - (w64 (x10.Lo + c13.1)))) else 0) - (if (w64 (x1.Board - c5.1)) > 0 then (w64 (x1.Board - c5.1)) else 0))) else 0)))]] [((!(!c13.2.1)) = true → (!(!c13.2.1)) = true), ((!(!c13.2.1)) = true → (!(!c13.2.1)) = true), ((!(!c13.2.1)) = true → (!(!c13.2.1)) = true), ((!(!c13.2.1)) = true → PCall Try.prog 70 [(.agg [(db true), (L3 (([(w64 (x10.Lo + c13.1))] : List Int) ++ x19.Surface)), (di (w64 (x21.Plaster + (if (w64 ((w64 (x10.Lo + c13.1)) - x10.Board)) > 0 then (w64 ((w64 (x10.Lo + c13.1)) - x10.Board)) else 0)))), (di (w64 (x22.Many + (if (w64 ((if (w64 (x10.Board - (w64 (x10.Lo + c13.1)))) > 0 then (w64 (x10.Board - (w64 (x10.Lo + c13.1)))) else 0) - (if (w64 (x1.Board - c5.1)) > 0 then (w64 (x1.Board - c5.1)) else 0))) > 0 then (w64 ((if (w64 (x10.Board - (w64 (x10.Lo + c13.1)))) > 0 then (w64 (x10.Board - (w64 (x10.Lo + c13.1)))) else 0) - (if (w64 (x1.Board - c5.1)) > 0 then (w64 (x1.Board - c5.1)) else 0))) else 0))))]), (.agg [(db c13.2.1), (L3 c13.2.2.1), (di c13.2.2.2.1), (di c13.2.2.2.2)]), (db passes)] (vb x23)), ((!c13.2.1) = false → (!(!c13.2.1)) = true)] (by kernel_rfl) (And.intro (id) (And.intro (id) (And.intro (id) (And.intro ((fun hg => ct70v1 (optG_of hx23 hg))) (not_of))))) ?_
              refine awp_cond (b := (cond (!c13.2.1) true x23)) (by kernel_rfl) (fun hb24 => ?_) (fun hb24 => ?_)
              · rw [if_pos hb24] at h
                refine awp_region (T' := [(1, vi at_), (2, .d (L107 ([] : List S_hachureref04qRest))), (3, vb passes), (4, .ref 0 0), (9, .ref 1 0), (10, .sl 4 2 0 c5.2.length), (11, vi c5.1), (12, .ref 3 0), (13, .ref 4 0), (14, vi c13.1)]) (H' := [.cells [vi p_r.Steep, .d (L58 p_r.Points)], .cells [vi x1.Board, vi x1.Lo, vi x1.Hi], .data (c5.2.flatMap cel107), .cells [vi x10.Board, vi x10.Lo, vi x10.Hi], .cells [vb true, .d (L3 (([(w64 (x10.Lo + c13.1))] : List Int) ++ x19.Surface)), vi (w64 (x21.Plaster + (if (w64 ((w64 (x10.Lo + c13.1)) - x10.Board)) > 0 then (w64 ((w64 (x10.Lo + c13.1)) - x10.Board)) else 0))), vi (w64 (x22.Many + (if (w64 ((if (w64 (x10.Board - (w64 (x10.Lo + c13.1)))) > 0 then (w64 (x10.Board - (w64 (x10.Lo + c13.1)))) else 0) - (if (w64 (x1.Board - c5.1)) > 0 then (w64 (x1.Board - c5.1)) else 0))) > 0 then (w64 ((if (w64 (x10.Board - (w64 (x10.Lo + c13.1)))) > 0 then (w64 (x10.Board - (w64 (x10.Lo + c13.1)))) else 0) - (if (w64 (x1.Board - c5.1)) > 0 then (w64 (x1.Board - c5.1)) else 0))) else 0)))], .cells [vb true, .d (L3 (([(w64 (x10.Lo + c13.1))] : List Int) ++ x19.Surface)), vi (w64 (x21.Plaster + (if (w64 ((w64 (x10.Lo + c13.1)) - x10.Board)) > 0 then (w64 ((w64 (x10.Lo + c13.1)) - x10.Board)) else 0))), vi (w64 (x22.Many + (if (w64 ((if (w64 (x10.Board - (w64 (x10.Lo + c13.1)))) > 0 then (w64 (x10.Board - (w64 (x10.Lo + c13.1)))) else 0) - (if (w64 (x1.Board - c5.1)) > 0 then (w64 (x1.Board - c5.1)) else 0))) > 0 then (w64 ((if (w64 (x10.Board - (w64 (x10.Lo + c13.1)))) > 0 then (w64 (x10.Board - (w64 (x10.Lo + c13.1)))) else 0) - (if (w64 (x1.Board - c5.1)) > 0 then (w64 (x1.Board - c5.1)) else 0))) else 0)))]]) (ps := []) tt_ok (ks := [1, 2, 3, 4, 9, 10, 11, 12, 13, 14]) (hs := []) (by kernel_rfl) trivial ?_
                show awp _ _ _ _ _ _ _ _
                refine awp_region (T' := [(1, vi at_), (2, .d (L107 ([] : List S_hachureref04qRest))), (3, vb passes), (4, .ref 0 0), (9, .ref 1 0), (10, .sl 4 2 0 c5.2.length), (11, vi c5.1), (12, .ref 3 0), (13, .ref 4 0), (14, vi (w64 (c13.1 + 1)))]) (H' := [.cells [vi p_r.Steep, .d (L58 p_r.Points)], .cells [vi x1.Board, vi x1.Lo, vi x1.Hi], .data (c5.2.flatMap cel107), .cells [vi x10.Board, vi x10.Lo, vi x10.Hi], .cells [vb true, .d (L3 (([(w64 (x10.Lo + c13.1))] : List Int) ++ x19.Surface)), vi (w64 (x21.Plaster + (if (w64 ((w64 (x10.Lo + c13.1)) - x10.Board)) > 0 then (w64 ((w64 (x10.Lo + c13.1)) - x10.Board)) else 0))), vi (w64 (x22.Many + (if (w64 ((if (w64 (x10.Board - (w64 (x10.Lo + c13.1)))) > 0 then (w64 (x10.Board - (w64 (x10.Lo + c13.1)))) else 0) - (if (w64 (x1.Board - c5.1)) > 0 then (w64 (x1.Board - c5.1)) else 0))) > 0 then (w64 ((if (w64 (x10.Board - (w64 (x10.Lo + c13.1)))) > 0 then (w64 (x10.Board - (w64 (x10.Lo + c13.1)))) else 0) - (if (w64 (x1.Board - c5.1)) > 0 then (w64 (x1.Board - c5.1)) else 0))) else 0)))], .cells [vb true, .d (L3 (([(w64 (x10.Lo + c13.1))] : List Int) ++ x19.Surface)), vi (w64 (x21.Plaster + (if (w64 ((w64 (x10.Lo + c13.1)) - x10.Board)) > 0 then (w64 ((w64 (x10.Lo + c13.1)) - x10.Board)) else 0))), vi (w64 (x22.Many + (if (w64 ((if (w64 (x10.Board - (w64 (x10.Lo + c13.1)))) > 0 then (w64 (x10.Board - (w64 (x10.Lo + c13.1)))) else 0) - (if (w64 (x1.Board - c5.1)) > 0 then (w64 (x1.Board - c5.1)) else 0))) > 0 then (w64 ((if (w64 (x10.Board - (w64 (x10.Lo + c13.1)))) > 0 then (w64 (x10.Board - (w64 (x10.Lo + c13.1)))) else 0) - (if (w64 (x1.Board - c5.1)) > 0 then (w64 (x1.Board - c5.1)) else 0))) else 0)))]]) (ps := []) tt_ok (ks := [1, 2, 3, 4, 9, 10, 11, 12, 13, 14]) (hs := []) (by kernel_rfl) trivial ?_
                exact awpN_wk 5 [1, 2, 3, 4, 9, 10, 11, 12, 13, 14] (by kernel_rfl) _ _ (by kernel_rfl) (by kernel_rfl) (hrn14 ((w64 (c13.1 + 1)), true, (([(w64 (x10.Lo + c13.1))] : List Int) ++ x19.Surface), (w64 (x21.Plaster + (if (w64 ((w64 (x10.Lo + c13.1)) - x10.Board)) > 0 then (w64 ((w64 (x10.Lo + c13.1)) - x10.Board)) else 0))), (w64 (x22.Many + (if (w64 ((if (w64 (x10.Board - (w64 (x10.Lo + c13.1)))) > 0 then (w64 (x10.Board - (w64 (x10.Lo + c13.1)))) else 0) - (if (w64 (x1.Board - c5.1)) > 0 then (w64 (x1.Board - c5.1)) else 0))) > 0 then (w64 ((if (w64 (x10.Board - (w64 (x10.Lo + c13.1)))) > 0 then (w64 (x10.Board - (w64 (x10.Lo + c13.1)))) else 0) - (if (w64 (x1.Board - c5.1)) > 0 then (w64 (x1.Board - c5.1)) else 0))) else 0)))) h)
              · rw [if_neg (ntrue hb24)] at h
                refine awp_skip ?_
                show awp _ _ _ _ _ _ _ _
                refine awp_region (T' := [(1, vi at_), (2, .d (L107 ([] : List S_hachureref04qRest))), (3, vb passes), (4, .ref 0 0), (9, .ref 1 0), (10, .sl 4 2 0 c5.2.length), (11, vi c5.1), (12, .ref 3 0), (13, .ref 4 0), (14, vi (w64 (c13.1 + 1)))]) (H' := [.cells [vi p_r.Steep, .d (L58 p_r.Points)], .cells [vi x1.Board, vi x1.Lo, vi x1.Hi], .data (c5.2.flatMap cel107), .cells [vi x10.Board, vi x10.Lo, vi x10.Hi], .cells [vb c13.2.1, .d (L3 c13.2.2.1), vi c13.2.2.2.1, vi c13.2.2.2.2], .cells [vb true, .d (L3 (([(w64 (x10.Lo + c13.1))] : List Int) ++ x19.Surface)), vi (w64 (x21.Plaster + (if (w64 ((w64 (x10.Lo + c13.1)) - x10.Board)) > 0 then (w64 ((w64 (x10.Lo + c13.1)) - x10.Board)) else 0))), vi (w64 (x22.Many + (if (w64 ((if (w64 (x10.Board - (w64 (x10.Lo + c13.1)))) > 0 then (w64 (x10.Board - (w64 (x10.Lo + c13.1)))) else 0) - (if (w64 (x1.Board - c5.1)) > 0 then (w64 (x1.Board - c5.1)) else 0))) > 0 then (w64 ((if (w64 (x10.Board - (w64 (x10.Lo + c13.1)))) > 0 then (w64 (x10.Board - (w64 (x10.Lo + c13.1)))) else 0) - (if (w64 (x1.Board - c5.1)) > 0 then (w64 (x1.Board - c5.1)) else 0))) else 0)))]]) (ps := []) tt_ok (ks := [1, 2, 3, 4, 9, 10, 11, 12, 13, 14]) (hs := []) (by kernel_rfl) trivial ?_
                exact awpN_wk 5 [1, 2, 3, 4, 9, 10, 11, 12, 13, 14] (by kernel_rfl) _ _ (by kernel_rfl) (by kernel_rfl) (hrn14 ((w64 (c13.1 + 1)), c13.2.1, c13.2.2.1, c13.2.2.2.1, c13.2.2.2.2) h)
          · rw [if_neg (ntrue hb15)] at h
            refine awp_exit ?_
            obtain rfl := Option.some.inj h
            exact Sel.mk [0, 1, 2, 3, 4] [1, 2, 3, 4, 9, 10, 11, 13] (by kernel_rfl) (by kernel_rfl) (by kernel_rfl) OutQ.norm
        · intro e T H hq
          cases o12 with
          | inl ro12 =>
            obtain ⟨rfl, rfl, rfl⟩ := hq
            rw [outK_inl] at h
            obtain rfl := Option.some.inj h
            exact Sel.mk [] [8] (by kernel_rfl) (by kernel_rfl) (by kernel_rfl) OutQ.ret
          | inr so12 =>
            obtain ⟨rfl, rfl, rfl⟩ := hq
            rw [outK_inr] at h
            show awp _ _ _ _ _ _ _ _
            obtain ⟨x25, hx25, h⟩ := Option.bind_eq_some_iff.1 h
            refine awp_region (T' := [(1, vi at_), (2, .d (L107 ([] : List S_hachureref04qRest))), (3, vb passes), (4, .ref 0 0), (9, .ref 1 0), (10, .sl 4 2 0 (c5.2 ++ ([(⟨so12.1, so12.2.1, so12.2.2.1, so12.2.2.2⟩ : S_hachureref04qRest)] : List S_hachureref04qRest)).length), (11, vi c5.1)]) (H' := [.cells [vi p_r.Steep, .d (L58 p_r.Points)], .cells [vi x1.Board, vi x1.Lo, vi x1.Hi], .data ((c5.2 ++ ([(⟨so12.1, so12.2.1, so12.2.2.1, so12.2.2.2⟩ : S_hachureref04qRest)] : List S_hachureref04qRest)).flatMap cel107), .cells [vi x10.Board, vi x10.Lo, vi x10.Hi], .cells [vb so12.1, .d (L3 so12.2.1), vi so12.2.2.1, vi so12.2.2.2]]) (ps := [AppendOk ((c5.2.flatMap cel107).map .d) c5.2.length ([(⟨so12.1, so12.2.1, so12.2.2.1, so12.2.2.2⟩ : S_hachureref04qRest)] : List S_hachureref04qRest).length (c5.2 ++ ([(⟨so12.1, so12.2.1, so12.2.2.1, so12.2.2.2⟩ : S_hachureref04qRest)] : List S_hachureref04qRest)).length 4 48 (([(⟨so12.1, so12.2.1, so12.2.2.1, so12.2.2.2⟩ : S_hachureref04qRest)] : List S_hachureref04qRest).flatMap cel107) ((c5.2 ++ ([(⟨so12.1, so12.2.1, so12.2.2.1, so12.2.2.2⟩ : S_hachureref04qRest)] : List S_hachureref04qRest)).flatMap cel107)]) tt_ok (ks := [1, 2, 3, 4, 9, 10, 11]) (hs := [.no, .no, .no, .list (c5.2 ++ ([(⟨so12.1, so12.2.1, so12.2.2.1, so12.2.2.2⟩ : S_hachureref04qRest)] : List S_hachureref04qRest)).length ((c5.2 ++ ([(⟨so12.1, so12.2.1, so12.2.2.1, so12.2.2.2⟩ : S_hachureref04qRest)] : List S_hachureref04qRest)).flatMap cel107)]) (by kernel_rfl) (appendOk cel107_len (need_of hx25)) ?_
            show awp _ _ _ _ _ _ _ _
            refine awp_region (T' := [(1, vi at_), (2, .d (L107 ([] : List S_hachureref04qRest))), (3, vb passes), (4, .ref 0 0), (9, .ref 1 0), (10, .sl 4 2 0 (c5.2 ++ ([(⟨so12.1, so12.2.1, so12.2.2.1, so12.2.2.2⟩ : S_hachureref04qRest)] : List S_hachureref04qRest)).length), (11, vi (w64 (c5.1 + 1)))]) (H' := [.cells [vi p_r.Steep, .d (L58 p_r.Points)], .cells [vi x1.Board, vi x1.Lo, vi x1.Hi], .data ((c5.2 ++ ([(⟨so12.1, so12.2.1, so12.2.2.1, so12.2.2.2⟩ : S_hachureref04qRest)] : List S_hachureref04qRest)).flatMap cel107), .cells [vi x10.Board, vi x10.Lo, vi x10.Hi], .cells [vb so12.1, .d (L3 so12.2.1), vi so12.2.2.1, vi so12.2.2.2]]) (ps := []) tt_ok (ks := [1, 2, 3, 4, 9, 10, 11]) (hs := []) (by kernel_rfl) trivial ?_
            exact awpN_wk 3 [1, 2, 3, 4, 9, 10, 11] (by kernel_rfl) _ _ (by kernel_rfl) (by kernel_rfl) (hrn6 ((w64 (c5.1 + 1)), (c5.2 ++ ([(⟨so12.1, so12.2.1, so12.2.2.1, so12.2.2.2⟩ : S_hachureref04qRest)] : List S_hachureref04qRest))) h)
    · rw [if_neg (ntrue hb7)] at h
      refine awp_exit ?_
      obtain rfl := Option.some.inj h
      exact Sel.mk [0, 1, 2] [10] (by kernel_rfl) (by kernel_rfl) (by kernel_rfl) OutQ.norm
  · intro e T H hq
    cases o4 with
    | inl ro4 =>
      obtain ⟨rfl, rfl, rfl⟩ := hq
      rw [outK_inl] at h
      obtain rfl := Option.some.inj h
      exact main_ret (by kernel_rfl)
    | inr so4 =>
      obtain ⟨rfl, rfl, rfl⟩ := hq
      rw [outK_inr] at h
      show awp _ _ _ _ _ _ _ _
      refine awp_sreg tt_ok (ks := [8]) (hs := []) [(8, .sl 4 2 0 so4.length)] [.cells [vi p_r.Steep, .d (L58 p_r.Points)], .cells [vi x1.Board, vi x1.Lo, vi x1.Hi], .data (so4.flatMap cel107)] [] (by kernel_rfl) trivial ?_
      obtain rfl := Option.some.inj h
      refine awp_wk 3 [8] (by kernel_rfl) [(8, .sl 4 2 0 so4.length)] [.cells [vi p_r.Steep, .d (L58 p_r.Points)], .cells [vi x1.Board, vi x1.Lo, vi x1.Hi], .data (so4.flatMap cel107)] (by kernel_rfl) (by kernel_rfl) ?_
      refine awp_freeze 8 2 (so4.flatMap cel107) (.sl 4 2 0 so4.length) (.d (L107 so4)) _ _ (ps := [(so4.flatMap cel107).length = so4.length * 4]) (by kernel_rfl) (by kernel_rfl) (by kernel_rfl) (flatMap_len cel107 4 cel107_len so4) rfl rfl ?_
      refine awp_wk 3 [8] (by kernel_rfl) [(8, .d (L107 so4))] [.cells [vi p_r.Steep, .d (L58 p_r.Points)], .cells [vi x1.Board, vi x1.Lo, vi x1.Hi], .data (([] : List S_hachureref04qRest).flatMap cel107)] (by kernel_rfl) (by kernel_rfl) ?_
      exact awp_ret (main_ret (by kernel_rfl))

set_option maxRecDepth 100000 in
theorem ct69v1 {fuel : Nat}  {p_r : S_api_CvRow} {at_ : Int} {next : (List S_hachureref04qRest)} {passes : Bool} {res : (List S_hachureref04qRest)} (h : F69v1 fuel p_r at_ next passes = some res) : PCall Try.prog 69 [(.agg [(di p_r.Steep), (L58 p_r.Points)]), (di at_), (L107 next), (db passes)] (.d (L107 res)) := by
  refine PCall.of_awp tt_ok (N := 124) Try.func69 rfl (by kernel_rfl) rfl (Nat.le_of_ble_eq_true rfl) rfl ?_
  unfold F69v1 at h
  refine awp_sreg tt_ok (ks := [1, 2, 3, 4]) (hs := []) [(1, vi at_), (2, .d (L107 next)), (3, vb passes), (4, .ref 0 0)] [.cells [vi p_r.Steep, .d (L58 p_r.Points)]] [] (by kernel_rfl) trivial ?_
  obtain ⟨x1, hx1, h⟩ := Option.bind_eq_some_iff.1 h
  refine awp_sreg tt_ok (ks := [1, 2, 3, 4, 9]) (hs := [.no, .no, .no, .cells (cel58 x1)]) [(1, vi at_), (2, .d (L107 next)), (3, vb passes), (4, .ref 0 0), (9, .ref 1 0)] [.cells [vi p_r.Steep, .d (L58 p_r.Points)], .cells [vi x1.Board, vi x1.Lo, vi x1.Hi]] [IX58 p_r.Points at_ x1] (by kernel_rfl) (idxOk cel58_len hx1) ?_
  refine awp_sreg tt_ok (ks := [1, 2, 3, 4, 9, 10]) (hs := []) [(1, vi at_), (2, .d (L107 next)), (3, vb passes), (4, .ref 0 0), (9, .ref 1 0), (10, .d dnil)] [.cells [vi p_r.Steep, .d (L58 p_r.Points)], .cells [vi x1.Board, vi x1.Lo, vi x1.Hi]] [] (by kernel_rfl) trivial ?_
  refine awp_seq ?_
  refine awp_sreg tt_ok (ks := [1, 2, 3, 4, 9, 10, 11]) (hs := []) [(1, vi at_), (2, .d (L107 next)), (3, vb passes), (4, .ref 0 0), (9, .ref 1 0), (10, .d dnil), (11, vi x1.Lo)] [.cells [vi p_r.Steep, .d (L58 p_r.Points)], .cells [vi x1.Board, vi x1.Lo, vi x1.Hi]] [] (by kernel_rfl) trivial ?_
  refine awp_nil 10 4 (by kernel_rfl) ?_
  refine awp_eq (T' := [(10, .sl 4 2 0 ([] : List S_hachureref04qRest).length), (1, vi at_), (2, .d (L107 next)), (3, vb passes), (4, .ref 0 0), (9, .ref 1 0), (11, vi x1.Lo)]) (H' := [.cells [vi p_r.Steep, .d (L58 p_r.Points)], .cells [vi x1.Board, vi x1.Lo, vi x1.Hi], .data (([] : List S_hachureref04qRest).flatMap cel107)]) (by kernel_rfl) (by kernel_rfl) ?_
  refine awp_wk 3 [1, 2, 3, 4, 9, 10, 11] (by kernel_rfl) [(1, vi at_), (2, .d (L107 next)), (3, vb passes), (4, .ref 0 0), (9, .ref 1 0), (10, .sl 4 2 0 ([] : List S_hachureref04qRest).length), (11, vi x1.Lo)] [.cells [vi p_r.Steep, .d (L58 p_r.Points)], .cells [vi x1.Board, vi x1.Lo, vi x1.Hi], .data (([] : List S_hachureref04qRest).flatMap cel107)] (by kernel_rfl) (by kernel_rfl) ?_
  obtain ⟨o3, ho3, h⟩ := Option.bind_eq_some_iff.1 h
  refine awp_cut1 (OutQ (fun (ro3 : (List S_hachureref04qRest)) => [(8, .d (L107 ro3))]) (fun (ro3 : (List S_hachureref04qRest)) => []) (fun (so3 : (List S_hachureref04qRest)) => [(10, .sl 4 2 0 so3.length)]) (fun (so3 : (List S_hachureref04qRest)) => [.cells [vi p_r.Steep, .d (L58 p_r.Points)], .cells [vi x1.Board, vi x1.Lo, vi x1.Hi], .data (so3.flatMap cel107)]) o3) ?_ ?_
  · clear h
    have h := ho3
    clear ho3
    refine awp_selQ ?_
    refine awp_wk 3 [1, 2, 3, 4, 9, 10, 11] (by kernel_rfl) [(1, vi at_), (2, .d (L107 next)), (3, vb passes), (4, .ref 0 0), (9, .ref 1 0), (10, .sl 4 2 0 ([] : List S_hachureref04qRest).length), (11, vi x1.Lo)] [.cells [vi p_r.Steep, .d (L58 p_r.Points)], .cells [vi x1.Board, vi x1.Lo, vi x1.Hi], .data (([] : List S_hachureref04qRest).flatMap cel107)] (by kernel_rfl) (by kernel_rfl) ?_
    refine awp_block ?_
    refine awp_loop (n := fuel) ?_
    refine awpN_ind (fun n (c4 : Int × (List S_hachureref04qRest)) => F69v1L1 fuel p_r at_ next passes x1 n c4) o3 (fun (c4 : Int × (List S_hachureref04qRest)) => [(1, vi at_), (2, .d (L107 next)), (3, vb passes), (4, .ref 0 0), (9, .ref 1 0), (10, .sl 4 2 0 c4.2.length), (11, vi c4.1)]) (fun (c4 : Int × (List S_hachureref04qRest)) => [.cells [vi p_r.Steep, .d (L58 p_r.Points)], .cells [vi x1.Board, vi x1.Lo, vi x1.Hi], .data (c4.2.flatMap cel107)]) (fun _ => rfl) ?_ fuel (x1.Lo, ([] : List S_hachureref04qRest)) h
    clear h
    intro n5 c4 h hrn5
    change F69v1L1 fuel p_r at_ next passes x1 (n5 + 1) c4 = some o3 at h
    rw [F69v1L1] at h
    refine awp_seq ?_
    refine awp_sreg tt_ok (ks := [1, 2, 3, 4, 9, 10, 11, 27]) (hs := []) [(1, vi at_), (2, .d (L107 next)), (3, vb passes), (4, .ref 0 0), (9, .ref 1 0), (10, .sl 4 2 0 c4.2.length), (11, vi c4.1), (27, vb (decide (c4.1 ≤ x1.Hi)))] [.cells [vi p_r.Steep, .d (L58 p_r.Points)], .cells [vi x1.Board, vi x1.Lo, vi x1.Hi], .data (c4.2.flatMap cel107)] [] (by kernel_rfl) trivial ?_
    refine awp_cond (b := (decide (c4.1 ≤ x1.Hi))) (by kernel_rfl) (fun hb6 => ?_) (fun hb6 => ?_)
    · rw [if_pos hb6] at h
      refine awp_skip ?_
      show awp _ _ _ _ _ _ _ _
      refine awp_seq ?_
      refine awp_block ?_
      refine awp_seq ?_
      refine awp_sreg tt_ok (ks := [1, 2, 3, 4, 9, 10, 11, 35]) (hs := []) [(1, vi at_), (2, .d (L107 next)), (3, vb passes), (4, .ref 0 0), (9, .ref 1 0), (10, .sl 4 2 0 c4.2.length), (11, vi c4.1), (35, vb (at_ == (w64 ((p_r.Points.length : Int) - 1))))] [.cells [vi p_r.Steep, .d (L58 p_r.Points)], .cells [vi x1.Board, vi x1.Lo, vi x1.Hi], .data (c4.2.flatMap cel107)] [] (by kernel_rfl) trivial ?_
      refine awp_cond (b := (at_ == (w64 ((p_r.Points.length : Int) - 1)))) (by kernel_rfl) (fun hb7 => ?_) (fun hb7 => ?_)
      · rw [if_pos hb7] at h
        obtain ⟨x8, hx8, h⟩ := Option.bind_eq_some_iff.1 h
        refine awp_sreg tt_ok (ks := [1, 2, 3, 4, 9, 10, 11]) (hs := [.no, .cells [(db true), (L3 ([] : List Int)), (di 0), (di 0)], .no, .list (c4.2 ++ ([(⟨true, ([] : List Int), 0, 0⟩ : S_hachureref04qRest)] : List S_hachureref04qRest)).length ((c4.2 ++ ([(⟨true, ([] : List Int), 0, 0⟩ : S_hachureref04qRest)] : List S_hachureref04qRest)).flatMap cel107)]) [(1, vi at_), (2, .d (L107 next)), (3, vb passes), (4, .ref 0 0), (9, .ref 1 0), (10, .sl 4 2 0 (c4.2 ++ ([(⟨true, ([] : List Int), 0, 0⟩ : S_hachureref04qRest)] : List S_hachureref04qRest)).length), (11, vi c4.1)] [.cells [vi p_r.Steep, .d (L58 p_r.Points)], .cells [vi x1.Board, vi x1.Lo, vi x1.Hi], .data ((c4.2 ++ ([(⟨true, ([] : List Int), 0, 0⟩ : S_hachureref04qRest)] : List S_hachureref04qRest)).flatMap cel107)] [LeDs [(db true), dnil, (di 0), (di 0)] [(db true), (L3 ([] : List Int)), (di 0), (di 0)], AppendOk ((c4.2.flatMap cel107).map .d) c4.2.length ([(⟨true, ([] : List Int), 0, 0⟩ : S_hachureref04qRest)] : List S_hachureref04qRest).length (c4.2 ++ ([(⟨true, ([] : List Int), 0, 0⟩ : S_hachureref04qRest)] : List S_hachureref04qRest)).length 4 48 (([(⟨true, ([] : List Int), 0, 0⟩ : S_hachureref04qRest)] : List S_hachureref04qRest).flatMap cel107) ((c4.2 ++ ([(⟨true, ([] : List Int), 0, 0⟩ : S_hachureref04qRest)] : List S_hachureref04qRest)).flatMap cel107)] (by kernel_rfl) (And.intro ((.cons (.rfl) (.cons (.nil (e := 1)) (.cons (.rfl) (.cons (.rfl) (.nil)))))) (appendOk cel107_len (need_of hx8))) ?_
        refine awp_exit ?_
        show awp _ _ _ _ _ _ _ _
        refine awp_region (T' := [(1, vi at_), (2, .d (L107 next)), (3, vb passes), (4, .ref 0 0), (9, .ref 1 0), (10, .sl 4 2 0 (c4.2 ++ ([(⟨true, ([] : List Int), 0, 0⟩ : S_hachureref04qRest)] : List S_hachureref04qRest)).length), (11, vi (w64 (c4.1 + 1)))]) (H' := [.cells [vi p_r.Steep, .d (L58 p_r.Points)], .cells [vi x1.Board, vi x1.Lo, vi x1.Hi], .data ((c4.2 ++ ([(⟨true, ([] : List Int), 0, 0⟩ : S_hachureref04qRest)] : List S_hachureref04qRest)).flatMap cel107)]) (ps := []) tt_ok (ks := [1, 2, 3, 4, 9, 10, 11]) (hs := []) (by kernel_rfl) trivial ?_
        exact awpN_wk 3 [1, 2, 3, 4, 9, 10, 11] (by kernel_rfl) _ _ (by kernel_rfl) (by kernel_rfl) (hrn5 ((w64 (c4.1 + 1)), (c4.2 ++ ([(⟨true, ([] : List Int), 0, 0⟩ : S_hachureref04qRest)] : List S_hachureref04qRest))) h)
      · rw [if_neg (ntrue hb7)] at h
        refine awp_skip ?_
        show awp _ _ _ _ _ _ _ _
        obtain ⟨x9, hx9, h⟩ := Option.bind_eq_some_iff.1 h
        refine awp_sreg tt_ok (ks := [1, 2, 3, 4, 9, 10, 11, 12]) (hs := [.no, .no, .no, .no, .cells (cel58 x9)]) [(1, vi at_), (2, .d (L107 next)), (3, vb passes), (4, .ref 0 0), (9, .ref 1 0), (10, .sl 4 2 0 c4.2.length), (11, vi c4.1), (12, .ref 3 0)] [.cells [vi p_r.Steep, .d (L58 p_r.Points)], .cells [vi x1.Board, vi x1.Lo, vi x1.Hi], .data (c4.2.flatMap cel107), .cells [vi x9.Board, vi x9.Lo, vi x9.Hi]] [IX58 p_r.Points (w64 (at_ + 1)) x9] (by kernel_rfl) (idxOk cel58_len hx9) ?_
        refine awp_sreg tt_ok (ks := [1, 2, 3, 4, 9, 10, 11, 12, 13]) (hs := []) [(1, vi at_), (2, .d (L107 next)), (3, vb passes), (4, .ref 0 0), (9, .ref 1 0), (10, .sl 4 2 0 c4.2.length), (11, vi c4.1), (12, .ref 3 0), (13, .ref 4 0)] [.cells [vi p_r.Steep, .d (L58 p_r.Points)], .cells [vi x1.Board, vi x1.Lo, vi x1.Hi], .data (c4.2.flatMap cel107), .cells [vi x9.Board, vi x9.Lo, vi x9.Hi], .cells [vb false, .d dnil, vi 0, vi 0]] [] (by kernel_rfl) trivial ?_
        refine awp_seq ?_
        refine awp_sreg tt_ok (ks := [1, 2, 3, 4, 9, 10, 11, 12, 13, 14]) (hs := []) [(1, vi at_), (2, .d (L107 next)), (3, vb passes), (4, .ref 0 0), (9, .ref 1 0), (10, .sl 4 2 0 c4.2.length), (11, vi c4.1), (12, .ref 3 0), (13, .ref 4 0), (14, vi 0)] [.cells [vi p_r.Steep, .d (L58 p_r.Points)], .cells [vi x1.Board, vi x1.Lo, vi x1.Hi], .data (c4.2.flatMap cel107), .cells [vi x9.Board, vi x9.Lo, vi x9.Hi], .cells [vb false, .d dnil, vi 0, vi 0]] [] (by kernel_rfl) trivial ?_
        refine awp_laxC 4 1 _ (L3 ([] : List Int)) [vb false, .d dnil, vi 0, vi 0] [.cells [vi p_r.Steep, .d (L58 p_r.Points)], .cells [vi x1.Board, vi x1.Lo, vi x1.Hi], .data (c4.2.flatMap cel107), .cells [vi x9.Board, vi x9.Lo, vi x9.Hi], .cells [vb false, .d (L3 ([] : List Int)), vi 0, vi 0]] (by kernel_rfl) (by kernel_rfl) (.nil (e := 1)) (by kernel_rfl) ?_
        refine awp_wk 5 [1, 2, 3, 4, 9, 10, 11, 12, 13, 14] (by kernel_rfl) [(1, vi at_), (2, .d (L107 next)), (3, vb passes), (4, .ref 0 0), (9, .ref 1 0), (10, .sl 4 2 0 c4.2.length), (11, vi c4.1), (12, .ref 3 0), (13, .ref 4 0), (14, vi 0)] [.cells [vi p_r.Steep, .d (L58 p_r.Points)], .cells [vi x1.Board, vi x1.Lo, vi x1.Hi], .data (c4.2.flatMap cel107), .cells [vi x9.Board, vi x9.Lo, vi x9.Hi], .cells [vb false, .d (L3 ([] : List Int)), vi 0, vi 0]] (by kernel_rfl) (by kernel_rfl) ?_
        obtain ⟨o11, ho11, h⟩ := Option.bind_eq_some_iff.1 h
        refine awp_cut1 (OutQ (fun (ro11 : (List S_hachureref04qRest)) => [(8, .d (L107 ro11))]) (fun (ro11 : (List S_hachureref04qRest)) => []) (fun (so11 : Bool × (List Int) × Int × Int) => [(1, vi at_), (2, .d (L107 next)), (3, vb passes), (4, .ref 0 0), (9, .ref 1 0), (10, .sl 4 2 0 c4.2.length), (11, vi c4.1), (13, .ref 4 0)]) (fun (so11 : Bool × (List Int) × Int × Int) => [.cells [vi p_r.Steep, .d (L58 p_r.Points)], .cells [vi x1.Board, vi x1.Lo, vi x1.Hi], .data (c4.2.flatMap cel107), .cells [vi x9.Board, vi x9.Lo, vi x9.Hi], .cells [vb so11.1, .d (L3 so11.2.1), vi so11.2.2.1, vi so11.2.2.2]]) o11) ?_ ?_
        · clear h
          have h := ho11
          clear ho11
          refine awp_selQ ?_
          refine awp_wk 5 [1, 2, 3, 4, 9, 10, 11, 12, 13, 14] (by kernel_rfl) [(1, vi at_), (2, .d (L107 next)), (3, vb passes), (4, .ref 0 0), (9, .ref 1 0), (10, .sl 4 2 0 c4.2.length), (11, vi c4.1), (12, .ref 3 0), (13, .ref 4 0), (14, vi 0)] [.cells [vi p_r.Steep, .d (L58 p_r.Points)], .cells [vi x1.Board, vi x1.Lo, vi x1.Hi], .data (c4.2.flatMap cel107), .cells [vi x9.Board, vi x9.Lo, vi x9.Hi], .cells [vb false, .d (L3 ([] : List Int)), vi 0, vi 0]] (by kernel_rfl) (by kernel_rfl) ?_
          refine awp_block ?_
          refine awp_loop (n := fuel) ?_
          refine awpN_ind (fun n (c12 : Int × Bool × (List Int) × Int × Int) => F69v1L2 p_r next passes x1 c4 x9 n c12) o11 (fun (c12 : Int × Bool × (List Int) × Int × Int) => [(1, vi at_), (2, .d (L107 next)), (3, vb passes), (4, .ref 0 0), (9, .ref 1 0), (10, .sl 4 2 0 c4.2.length), (11, vi c4.1), (12, .ref 3 0), (13, .ref 4 0), (14, vi c12.1)]) (fun (c12 : Int × Bool × (List Int) × Int × Int) => [.cells [vi p_r.Steep, .d (L58 p_r.Points)], .cells [vi x1.Board, vi x1.Lo, vi x1.Hi], .data (c4.2.flatMap cel107), .cells [vi x9.Board, vi x9.Lo, vi x9.Hi], .cells [vb c12.2.1, .d (L3 c12.2.2.1), vi c12.2.2.2.1, vi c12.2.2.2.2]]) (fun _ => rfl) ?_ fuel (0, false, ([] : List Int), 0, 0) h
          clear h
          intro n13 c12 h hrn13
          change F69v1L2 p_r next passes x1 c4 x9 (n13 + 1) c12 = some o11 at h
          rw [F69v1L2] at h
          refine awp_seq ?_
          refine awp_sreg tt_ok (ks := [1, 2, 3, 4, 9, 10, 11, 12, 13, 14, 49]) (hs := []) [(1, vi at_), (2, .d (L107 next)), (3, vb passes), (4, .ref 0 0), (9, .ref 1 0), (10, .sl 4 2 0 c4.2.length), (11, vi c4.1), (12, .ref 3 0), (13, .ref 4 0), (14, vi c12.1), (49, vb (decide (c12.1 < (next.length : Int))))] [.cells [vi p_r.Steep, .d (L58 p_r.Points)], .cells [vi x1.Board, vi x1.Lo, vi x1.Hi], .data (c4.2.flatMap cel107), .cells [vi x9.Board, vi x9.Lo, vi x9.Hi], .cells [vb c12.2.1, .d (L3 c12.2.2.1), vi c12.2.2.2.1, vi c12.2.2.2.2]] [] (by kernel_rfl) trivial ?_
          refine awp_cond (b := (decide (c12.1 < (next.length : Int)))) (by kernel_rfl) (fun hb14 => ?_) (fun hb14 => ?_)
          · rw [if_pos hb14] at h
            refine awp_skip ?_
            show awp _ _ _ _ _ _ _ _
            refine awp_seq ?_
            refine awp_block ?_
            refine awp_sreg tt_ok (ks := [1, 2, 3, 4, 9, 10, 11, 12, 13, 14, 15]) (hs := []) [(1, vi at_), (2, .d (L107 next)), (3, vb passes), (4, .ref 0 0), (9, .ref 1 0), (10, .sl 4 2 0 c4.2.length), (11, vi c4.1), (12, .ref 3 0), (13, .ref 4 0), (14, vi c12.1), (15, vi (w64 (x9.Lo + c12.1)))] [.cells [vi p_r.Steep, .d (L58 p_r.Points)], .cells [vi x1.Board, vi x1.Lo, vi x1.Hi], .data (c4.2.flatMap cel107), .cells [vi x9.Board, vi x9.Lo, vi x9.Hi], .cells [vb c12.2.1, .d (L3 c12.2.2.1), vi c12.2.2.2.1, vi c12.2.2.2.2]] [] (by kernel_rfl) trivial ?_
            refine awp_seq ?_
            obtain ⟨x15, hx15, h⟩ := Option.bind_eq_some_iff.1 h
            obtain ⟨x16, hx16, h⟩ := Option.bind_eq_some_iff.1 h
            refine awp_sdraw tt_ok mixed (ks := [1, 2, 3, 4, 9, 10, 11, 12, 13, 14, 15, 69]) (hs := [.no, .no, .cells (cel107 x15), .no, .no, .no, .no, .no, .no, .call [(di c4.1), (di (w64 (x9.Lo + c12.1)))] (vi x16)]) 12 [1, 2, 3, 4, 9, 10, 11, 12, 13, 14, 15, 62, 65, 67, 68, 69] [(1, vi at_), (2, .d (L107 next)), (3, vb passes), (4, .ref 0 0), (9, .ref 1 0), (10, .sl 4 2 0 c4.2.length), (11, vi c4.1), (12, .ref 3 0), (13, .ref 4 0), (14, vi c12.1), (15, vi (w64 (x9.Lo + c12.1))), (69, vb (cond (!x15.Is) true (decide (x16 > p_r.Steep))))] [.cells [vi p_r.Steep, .d (L58 p_r.Points)], .cells [vi x1.Board, vi x1.Lo, vi x1.Hi], .data (c4.2.flatMap cel107), .cells [vi x9.Board, vi x9.Lo, vi x9.Hi], .cells [vb c12.2.1, .d (L3 c12.2.2.1), vi c12.2.2.2.1, vi c12.2.2.2.2]] [IX107 next c12.1 x15, ((!(!x15.Is)) = true → (!(!x15.Is)) = true), ((!(!x15.Is)) = true → (!(!x15.Is)) = true), ((!(!x15.Is)) = true → PCall Try.prog 53 [(di c4.1), (di (w64 (x9.Lo + c12.1)))] (vi x16)), ((!(!x15.Is)) = true → (!(!x15.Is)) = true), ((!(!x15.Is)) = true → (!(!x15.Is)) = true), ((!(!x15.Is)) = true → (!(!x15.Is)) = true), ((!x15.Is) = false → (!(!x15.Is)) = true)] (by kernel_rfl) (And.intro (idxOk cel107_len hx15) (And.intro (id) (And.intro (id) (And.intro ((fun hg => ct53 (optG_of hx16 hg))) (And.intro (id) (And.intro (id) (And.intro (id) (not_of)))))))) ?_
            refine awp_cond (b := (cond (!x15.Is) true (decide (x16 > p_r.Steep)))) (by kernel_rfl) (fun hb17 => ?_) (fun hb17 => ?_)
            · rw [if_pos hb17] at h
              refine awp_exit ?_
              show awp _ _ _ _ _ _ _ _
              refine awp_region (T' := [(1, vi at_), (2, .d (L107 next)), (3, vb passes), (4, .ref 0 0), (9, .ref 1 0), (10, .sl 4 2 0 c4.2.length), (11, vi c4.1), (12, .ref 3 0), (13, .ref 4 0), (14, vi (w64 (c12.1 + 1)))]) (H' := [.cells [vi p_r.Steep, .d (L58 p_r.Points)], .cells [vi x1.Board, vi x1.Lo, vi x1.Hi], .data (c4.2.flatMap cel107), .cells [vi x9.Board, vi x9.Lo, vi x9.Hi], .cells [vb c12.2.1, .d (L3 c12.2.2.1), vi c12.2.2.2.1, vi c12.2.2.2.2]]) (ps := []) tt_ok (ks := [1, 2, 3, 4, 9, 10, 11, 12, 13, 14]) (hs := []) (by kernel_rfl) trivial ?_
              exact awpN_wk 5 [1, 2, 3, 4, 9, 10, 11, 12, 13, 14] (by kernel_rfl) _ _ (by kernel_rfl) (by kernel_rfl) (hrn13 ((w64 (c12.1 + 1)), c12.2.1, c12.2.2.1, c12.2.2.2.1, c12.2.2.2.2) h)
            · rw [if_neg (ntrue hb17)] at h
              refine awp_skip ?_
              show awp _ _ _ _ _ _ _ _
              refine awp_res [.cells [vi p_r.Steep, .d (L58 p_r.Points)], .cells [vi x1.Board, vi x1.Lo, vi x1.Hi], .data (c4.2.flatMap cel107), .cells [vi x9.Board, vi x9.Lo, vi x9.Hi], .cells [vb c12.2.1, .d (L3 c12.2.2.1), vi c12.2.2.2.1, vi c12.2.2.2.2], .data []] (by kernel_rfl) ?_
              obtain ⟨x18, hx18, h⟩ := Option.bind_eq_some_iff.1 h
              obtain ⟨x19, hx19, h⟩ := Option.bind_eq_some_iff.1 h
              obtain ⟨x20, hx20, h⟩ := Option.bind_eq_some_iff.1 h
              refine awp_seq (awp_any (T' := [(1, vi at_), (2, .d (L107 next)), (3, vb passes), (4, .ref 0 0), (9, .ref 1 0), (10, .sl 4 2 0 c4.2.length), (11, vi c4.1), (12, .ref 3 0), (13, .ref 4 0), (14, vi c12.1), (15, vi (w64 (x9.Lo + c12.1))), (16, .ref 5 0)]) (H' := [.cells [vi p_r.Steep, .d (L58 p_r.Points)], .cells [vi x1.Board, vi x1.Lo, vi x1.Hi], .data (c4.2.flatMap cel107), .cells [vi x9.Board, vi x9.Lo, vi x9.Hi], .cells [vb c12.2.1, .d (L3 c12.2.2.1), vi c12.2.2.2.1, vi c12.2.2.2.2], .cells [vb true, .d (L3 (([(w64 (x9.Lo + c12.1))] : List Int) ++ x18.Surface)), vi (w64 (x20.Plaster + (if (w64 ((w64 (x9.Lo + c12.1)) - x9.Board)) > 0 then (w64 ((w64 (x9.Lo + c12.1)) - x9.Board)) else 0))), vi 0]]) (ps := [IX107 next c12.1 x18, AppendOk ((([(w64 (x9.Lo + c12.1))] : List Int).flatMap cel3).map .d) ([(w64 (x9.Lo + c12.1))] : List Int).length x18.Surface.length (([(w64 (x9.Lo + c12.1))] : List Int) ++ x18.Surface).length 1 8 (x18.Surface.flatMap cel3) ((([(w64 (x9.Lo + c12.1))] : List Int) ++ x18.Surface).flatMap cel3), IX107 next c12.1 x20]) tt_ok mixed (ks := [1, 2, 3, 4, 9, 10, 11, 12, 13, 14, 15, 16]) (hs := [.no, .cells [], .no, .no, .cells (cel107 x18), .no, .no, .listT (([(w64 (x9.Lo + c12.1))] : List Int) ++ x18.Surface).length ((([(w64 (x9.Lo + c12.1))] : List Int) ++ x18.Surface).flatMap cel3), .no, .no, .cells (cel107 x20), .no, .no, .no, .no, .no, .no, .no, .no, .no, .res 5]) (m := 21) (mid := [1, 2, 3, 4, 9, 10, 11, 12, 13, 14, 15, 16, 89]) (by kernel_rfl) (And.intro (idxOk cel107_len hx18) (And.intro (appendOk cel3_len (need_of hx19)) (idxOk cel107_len hx20))) ?_)
              show awp _ _ _ _ _ _ _ _
              obtain ⟨x21, hx21, h⟩ := Option.bind_eq_some_iff.1 h
              refine awp_sdraw tt_ok mixed (ks := [1, 2, 3, 4, 9, 10, 11, 12, 13, 14, 16]) (hs := [.no, .no, .cells (cel107 x21)]) 17 [1, 2, 3, 4, 9, 10, 11, 12, 13, 14, 16, 94, 106, 107, 108] [(1, vi at_), (2, .d (L107 next)), (3, vb passes), (4, .ref 0 0), (9, .ref 1 0), (10, .sl 4 2 0 c4.2.length), (11, vi c4.1), (12, .ref 3 0), (13, .ref 4 0), (14, vi c12.1), (16, .ref 5 0)] [.cells [vi p_r.Steep, .d (L58 p_r.Points)], .cells [vi x1.Board, vi x1.Lo, vi x1.Hi], .data (c4.2.flatMap cel107), .cells [vi x9.Board, vi x9.Lo, vi x9.Hi], .cells [vb c12.2.1, .d (L3 c12.2.2.1), vi c12.2.2.2.1, vi c12.2.2.2.2], .cells [vb true, .d (L3 (([(w64 (x9.Lo + c12.1))] : List Int) ++ x18.Surface)), vi (w64 (x20.Plaster + (if (w64 ((w64 (x9.Lo + c12.1)) - x9.Board)) > 0 then (w64 ((w64 (x9.Lo + c12.1)) - x9.Board)) else 0))), vi (w64 (x21.Many + (if (w64 ((if (w64 (x9.Board - (w64 (x9.Lo + c12.1)))) > 0 then (w64 (x9.Board - (w64 (x9.Lo + c12.1)))) else 0) - (if (w64 (x1.Board - c4.1)) > 0 then (w64 (x1.Board - c4.1)) else 0))) > 0 then (w64 ((if (w64 (x9.Board - (w64 (x9.Lo + c12.1)))) > 0 then (w64 (x9.Board - (w64 (x9.Lo + c12.1)))) else 0) - (if (w64 (x1.Board - c4.1)) > 0 then (w64 (x1.Board - c4.1)) else 0))) else 0)))]] [IX107 next c12.1 x21] (by kernel_rfl) (idxOk cel107_len hx21) ?_
              obtain ⟨x22, hx22, h⟩ := Option.bind_eq_some_iff.1 h
              refine awp_sreg tt_ok (ks := [1, 2, 3, 4, 9, 10, 11, 12, 13, 14, 16, 117]) (hs := [.no, .no, .no, .no, .no, .no, .no, .call [(.agg [(db true), (L3 (([(w64 (x9.Lo + c12.1))] : List Int) ++ x18.Surface)), (di (w64 (x20.Plaster + (if (w64 ((w64 (x9.Lo + c12.1)) - x9.Board)) > 0 then (w64 ((w64 (x9.Lo + c12.1)) - x9.Board)) else 0)))), (di (w64 (x21.Many + (if (w64 ((if (w64 (x9.Board - (w64 (x9.Lo + c12.1)))) > 0 then (w64 (x9.Board - (w64 (x9.Lo + c12.1)))) else 0) - (if (w64 (x1.Board - c4.1)) > 0 then (w64 (x1.Board - c4.1)) else 0))) > 0 then (w64 ((if (w64 (x9.Board - (w64 (x9.Lo + c12.1)))) > 0 then (w64 (x9.Board - (w64 (x9.Lo + c12.1)))) else 0) - (if (w64 (x1.Board - c4.1)) > 0 then (w64 (x1.Board - c4.1)) else 0))) else 0))))]), (.agg [(db c12.2.1), (L3 c12.2.2.1), (di c12.2.2.2.1), (di c12.2.2.2.2)]), (db passes)] (vb x22)]) [(1, vi at_), (2, .d (L107 next)), (3, vb passes), (4, .ref 0 0), (9, .ref 1 0), (10, .sl 4 2 0 c4.2.length), (11, vi c4.1), (12, .ref 3 0), (13, .ref 4 0), (14, vi c12.1), (16, .ref 5 0), (117, vb (cond (!c12.2.1) true x22))] [.cells [vi p_r.Steep, .d (L58 p_r.Points)], .cells [vi x1.Board, vi x1.Lo, vi x1.Hi], .data (c4.2.flatMap cel107), .cells [vi x9.Board, vi x9.Lo, vi x9.Hi], .cells [vb c12.2.1, .d (L3 c12.2.2.1), vi c12.2.2.2.1, vi c12.2.2.2.2], .cells [vb true, .d (L3 (([(w64 (x9.Lo + c12.1))] : List Int) ++ x18.Surface)), vi (w64 (x20.Plaster + (if (w64 ((w64 (x9.Lo + c12.1)) - x9.Board)) > 0 then (w64 ((w64 (x9.Lo + c12.1)) - x9.Board)) else 0))), vi (w64 (x21.Many + (if (w64 ((if (w64 (x9.Board - (w64 (x9.Lo + c12.1)))) > 0 then (w64 (x9.Board - (w64 (x9.Lo + c12.1)))) else 0) - (if (w64 (x1.Board - c4.1)) > 0 then (w64 (x1.Board - c4.1)) else 0))) > 0 then (w64 ((if (w64 (x9.Board - (w64 (x9.Lo + c12.1)))) > 0 then (w64 (x9.Board - (w64 (x9.Lo + c12.1)))) else 0) - (if (w64 (x1.Board - c4.1)) > 0 then (w64 (x1.Board - c4.1)) else 0))) else 0)))]] [((!(!c12.2.1)) = true → (!(!c12.2.1)) = true), ((!(!c12.2.1)) = true → (!(!c12.2.1)) = true), ((!(!c12.2.1)) = true → (!(!c12.2.1)) = true), ((!(!c12.2.1)) = true → PCall Try.prog 70 [(.agg [(db true), (L3 (([(w64 (x9.Lo + c12.1))] : List Int) ++ x18.Surface)), (di (w64 (x20.Plaster + (if (w64 ((w64 (x9.Lo + c12.1)) - x9.Board)) > 0 then (w64 ((w64 (x9.Lo + c12.1)) - x9.Board)) else 0)))), (di (w64 (x21.Many + (if (w64 ((if (w64 (x9.Board - (w64 (x9.Lo + c12.1)))) > 0 then (w64 (x9.Board - (w64 (x9.Lo + c12.1)))) else 0) - (if (w64 (x1.Board - c4.1)) > 0 then (w64 (x1.Board - c4.1)) else 0))) > 0 then (w64 ((if (w64 (x9.Board - (w64 (x9.Lo + c12.1)))) > 0 then (w64 (x9.Board - (w64 (x9.Lo + c12.1)))) else 0) - (if (w64 (x1.Board - c4.1)) > 0 then (w64 (x1.Board - c4.1)) else 0))) else 0))))]), (.agg [(db c12.2.1), (L3 c12.2.2.1), (di c12.2.2.2.1), (di c12.2.2.2.2)]), (db passes)] (vb x22)), ((!c12.2.1) = false → (!(!c12.2.1)) = true)] (by kernel_rfl) (And.intro (id) (And.intro (id) (And.intro (id) (And.intro ((fun hg => ct70v1 (optG_of hx22 hg))) (not_of))))) ?_
              refine awp_cond (b := (cond (!c12.2.1) true x22)) (by kernel_rfl) (fun hb23 => ?_) (fun hb23 => ?_)
              · rw [if_pos hb23] at h
                refine awp_region (T' := [(1, vi at_), (2, .d (L107 next)), (3, vb passes), (4, .ref 0 0), (9, .ref 1 0), (10, .sl 4 2 0 c4.2.length), (11, vi c4.1), (12, .ref 3 0), (13, .ref 4 0), (14, vi c12.1)]) (H' := [.cells [vi p_r.Steep, .d (L58 p_r.Points)], .cells [vi x1.Board, vi x1.Lo, vi x1.Hi], .data (c4.2.flatMap cel107), .cells [vi x9.Board, vi x9.Lo, vi x9.Hi], .cells [vb true, .d (L3 (([(w64 (x9.Lo + c12.1))] : List Int) ++ x18.Surface)), vi (w64 (x20.Plaster + (if (w64 ((w64 (x9.Lo + c12.1)) - x9.Board)) > 0 then (w64 ((w64 (x9.Lo + c12.1)) - x9.Board)) else 0))), vi (w64 (x21.Many + (if (w64 ((if (w64 (x9.Board - (w64 (x9.Lo + c12.1)))) > 0 then (w64 (x9.Board - (w64 (x9.Lo + c12.1)))) else 0) - (if (w64 (x1.Board - c4.1)) > 0 then (w64 (x1.Board - c4.1)) else 0))) > 0 then (w64 ((if (w64 (x9.Board - (w64 (x9.Lo + c12.1)))) > 0 then (w64 (x9.Board - (w64 (x9.Lo + c12.1)))) else 0) - (if (w64 (x1.Board - c4.1)) > 0 then (w64 (x1.Board - c4.1)) else 0))) else 0)))], .cells [vb true, .d (L3 (([(w64 (x9.Lo + c12.1))] : List Int) ++ x18.Surface)), vi (w64 (x20.Plaster + (if (w64 ((w64 (x9.Lo + c12.1)) - x9.Board)) > 0 then (w64 ((w64 (x9.Lo + c12.1)) - x9.Board)) else 0))), vi (w64 (x21.Many + (if (w64 ((if (w64 (x9.Board - (w64 (x9.Lo + c12.1)))) > 0 then (w64 (x9.Board - (w64 (x9.Lo + c12.1)))) else 0) - (if (w64 (x1.Board - c4.1)) > 0 then (w64 (x1.Board - c4.1)) else 0))) > 0 then (w64 ((if (w64 (x9.Board - (w64 (x9.Lo + c12.1)))) > 0 then (w64 (x9.Board - (w64 (x9.Lo + c12.1)))) else 0) - (if (w64 (x1.Board - c4.1)) > 0 then (w64 (x1.Board - c4.1)) else 0))) else 0)))]]) (ps := []) tt_ok (ks := [1, 2, 3, 4, 9, 10, 11, 12, 13, 14]) (hs := []) (by kernel_rfl) trivial ?_
                show awp _ _ _ _ _ _ _ _
                refine awp_region (T' := [(1, vi at_), (2, .d (L107 next)), (3, vb passes), (4, .ref 0 0), (9, .ref 1 0), (10, .sl 4 2 0 c4.2.length), (11, vi c4.1), (12, .ref 3 0), (13, .ref 4 0), (14, vi (w64 (c12.1 + 1)))]) (H' := [.cells [vi p_r.Steep, .d (L58 p_r.Points)], .cells [vi x1.Board, vi x1.Lo, vi x1.Hi], .data (c4.2.flatMap cel107), .cells [vi x9.Board, vi x9.Lo, vi x9.Hi], .cells [vb true, .d (L3 (([(w64 (x9.Lo + c12.1))] : List Int) ++ x18.Surface)), vi (w64 (x20.Plaster + (if (w64 ((w64 (x9.Lo + c12.1)) - x9.Board)) > 0 then (w64 ((w64 (x9.Lo + c12.1)) - x9.Board)) else 0))), vi (w64 (x21.Many + (if (w64 ((if (w64 (x9.Board - (w64 (x9.Lo + c12.1)))) > 0 then (w64 (x9.Board - (w64 (x9.Lo + c12.1)))) else 0) - (if (w64 (x1.Board - c4.1)) > 0 then (w64 (x1.Board - c4.1)) else 0))) > 0 then (w64 ((if (w64 (x9.Board - (w64 (x9.Lo + c12.1)))) > 0 then (w64 (x9.Board - (w64 (x9.Lo + c12.1)))) else 0) - (if (w64 (x1.Board - c4.1)) > 0 then (w64 (x1.Board - c4.1)) else 0))) else 0)))], .cells [vb true, .d (L3 (([(w64 (x9.Lo + c12.1))] : List Int) ++ x18.Surface)), vi (w64 (x20.Plaster + (if (w64 ((w64 (x9.Lo + c12.1)) - x9.Board)) > 0 then (w64 ((w64 (x9.Lo + c12.1)) - x9.Board)) else 0))), vi (w64 (x21.Many + (if (w64 ((if (w64 (x9.Board - (w64 (x9.Lo + c12.1)))) > 0 then (w64 (x9.Board - (w64 (x9.Lo + c12.1)))) else 0) - (if (w64 (x1.Board - c4.1)) > 0 then (w64 (x1.Board - c4.1)) else 0))) > 0 then (w64 ((if (w64 (x9.Board - (w64 (x9.Lo + c12.1)))) > 0 then (w64 (x9.Board - (w64 (x9.Lo + c12.1)))) else 0) - (if (w64 (x1.Board - c4.1)) > 0 then (w64 (x1.Board - c4.1)) else 0))) else 0)))]]) (ps := []) tt_ok (ks := [1, 2, 3, 4, 9, 10, 11, 12, 13, 14]) (hs := []) (by kernel_rfl) trivial ?_
                exact awpN_wk 5 [1, 2, 3, 4, 9, 10, 11, 12, 13, 14] (by kernel_rfl) _ _ (by kernel_rfl) (by kernel_rfl) (hrn13 ((w64 (c12.1 + 1)), true, (([(w64 (x9.Lo + c12.1))] : List Int) ++ x18.Surface), (w64 (x20.Plaster + (if (w64 ((w64 (x9.Lo + c12.1)) - x9.Board)) > 0 then (w64 ((w64 (x9.Lo + c12.1)) - x9.Board)) else 0))), (w64 (x21.Many + (if (w64 ((if (w64 (x9.Board - (w64 (x9.Lo + c12.1)))) > 0 then (w64 (x9.Board - (w64 (x9.Lo + c12.1)))) else 0) - (if (w64 (x1.Board - c4.1)) > 0 then (w64 (x1.Board - c4.1)) else 0))) > 0 then (w64 ((if (w64 (x9.Board - (w64 (x9.Lo + c12.1)))) > 0 then (w64 (x9.Board - (w64 (x9.Lo + c12.1)))) else 0) - (if (w64 (x1.Board - c4.1)) > 0 then (w64 (x1.Board - c4.1)) else 0))) else 0)))) h)
              · rw [if_neg (ntrue hb23)] at h
                refine awp_skip ?_
                show awp _ _ _ _ _ _ _ _
                refine awp_region (T' := [(1, vi at_), (2, .d (L107 next)), (3, vb passes), (4, .ref 0 0), (9, .ref 1 0), (10, .sl 4 2 0 c4.2.length), (11, vi c4.1), (12, .ref 3 0), (13, .ref 4 0), (14, vi (w64 (c12.1 + 1)))]) (H' := [.cells [vi p_r.Steep, .d (L58 p_r.Points)], .cells [vi x1.Board, vi x1.Lo, vi x1.Hi], .data (c4.2.flatMap cel107), .cells [vi x9.Board, vi x9.Lo, vi x9.Hi], .cells [vb c12.2.1, .d (L3 c12.2.2.1), vi c12.2.2.2.1, vi c12.2.2.2.2], .cells [vb true, .d (L3 (([(w64 (x9.Lo + c12.1))] : List Int) ++ x18.Surface)), vi (w64 (x20.Plaster + (if (w64 ((w64 (x9.Lo + c12.1)) - x9.Board)) > 0 then (w64 ((w64 (x9.Lo + c12.1)) - x9.Board)) else 0))), vi (w64 (x21.Many + (if (w64 ((if (w64 (x9.Board - (w64 (x9.Lo + c12.1)))) > 0 then (w64 (x9.Board - (w64 (x9.Lo + c12.1)))) else 0) - (if (w64 (x1.Board - c4.1)) > 0 then (w64 (x1.Board - c4.1)) else 0))) > 0 then (w64 ((if (w64 (x9.Board - (w64 (x9.Lo + c12.1)))) > 0 then (w64 (x9.Board - (w64 (x9.Lo + c12.1)))) else 0) - (if (w64 (x1.Board - c4.1)) > 0 then (w64 (x1.Board - c4.1)) else 0))) else 0)))]]) (ps := []) tt_ok (ks := [1, 2, 3, 4, 9, 10, 11, 12, 13, 14]) (hs := []) (by kernel_rfl) trivial ?_
                exact awpN_wk 5 [1, 2, 3, 4, 9, 10, 11, 12, 13, 14] (by kernel_rfl) _ _ (by kernel_rfl) (by kernel_rfl) (hrn13 ((w64 (c12.1 + 1)), c12.2.1, c12.2.2.1, c12.2.2.2.1, c12.2.2.2.2) h)
          · rw [if_neg (ntrue hb14)] at h
            refine awp_exit ?_
            obtain rfl := Option.some.inj h
            exact Sel.mk [0, 1, 2, 3, 4] [1, 2, 3, 4, 9, 10, 11, 13] (by kernel_rfl) (by kernel_rfl) (by kernel_rfl) OutQ.norm
        · intro e T H hq
          cases o11 with
          | inl ro11 =>
            obtain ⟨rfl, rfl, rfl⟩ := hq
            rw [outK_inl] at h
            obtain rfl := Option.some.inj h
            exact Sel.mk [] [8] (by kernel_rfl) (by kernel_rfl) (by kernel_rfl) OutQ.ret
          | inr so11 =>
            obtain ⟨rfl, rfl, rfl⟩ := hq
            rw [outK_inr] at h
            show awp _ _ _ _ _ _ _ _
            obtain ⟨x24, hx24, h⟩ := Option.bind_eq_some_iff.1 h
            refine awp_region (T' := [(1, vi at_), (2, .d (L107 next)), (3, vb passes), (4, .ref 0 0), (9, .ref 1 0), (10, .sl 4 2 0 (c4.2 ++ ([(⟨so11.1, so11.2.1, so11.2.2.1, so11.2.2.2⟩ : S_hachureref04qRest)] : List S_hachureref04qRest)).length), (11, vi c4.1)]) (H' := [.cells [vi p_r.Steep, .d (L58 p_r.Points)], .cells [vi x1.Board, vi x1.Lo, vi x1.Hi], .data ((c4.2 ++ ([(⟨so11.1, so11.2.1, so11.2.2.1, so11.2.2.2⟩ : S_hachureref04qRest)] : List S_hachureref04qRest)).flatMap cel107), .cells [vi x9.Board, vi x9.Lo, vi x9.Hi], .cells [vb so11.1, .d (L3 so11.2.1), vi so11.2.2.1, vi so11.2.2.2]]) (ps := [AppendOk ((c4.2.flatMap cel107).map .d) c4.2.length ([(⟨so11.1, so11.2.1, so11.2.2.1, so11.2.2.2⟩ : S_hachureref04qRest)] : List S_hachureref04qRest).length (c4.2 ++ ([(⟨so11.1, so11.2.1, so11.2.2.1, so11.2.2.2⟩ : S_hachureref04qRest)] : List S_hachureref04qRest)).length 4 48 (([(⟨so11.1, so11.2.1, so11.2.2.1, so11.2.2.2⟩ : S_hachureref04qRest)] : List S_hachureref04qRest).flatMap cel107) ((c4.2 ++ ([(⟨so11.1, so11.2.1, so11.2.2.1, so11.2.2.2⟩ : S_hachureref04qRest)] : List S_hachureref04qRest)).flatMap cel107)]) tt_ok (ks := [1, 2, 3, 4, 9, 10, 11]) (hs := [.no, .no, .no, .list (c4.2 ++ ([(⟨so11.1, so11.2.1, so11.2.2.1, so11.2.2.2⟩ : S_hachureref04qRest)] : List S_hachureref04qRest)).length ((c4.2 ++ ([(⟨so11.1, so11.2.1, so11.2.2.1, so11.2.2.2⟩ : S_hachureref04qRest)] : List S_hachureref04qRest)).flatMap cel107)]) (by kernel_rfl) (appendOk cel107_len (need_of hx24)) ?_
            show awp _ _ _ _ _ _ _ _
            refine awp_region (T' := [(1, vi at_), (2, .d (L107 next)), (3, vb passes), (4, .ref 0 0), (9, .ref 1 0), (10, .sl 4 2 0 (c4.2 ++ ([(⟨so11.1, so11.2.1, so11.2.2.1, so11.2.2.2⟩ : S_hachureref04qRest)] : List S_hachureref04qRest)).length), (11, vi (w64 (c4.1 + 1)))]) (H' := [.cells [vi p_r.Steep, .d (L58 p_r.Points)], .cells [vi x1.Board, vi x1.Lo, vi x1.Hi], .data ((c4.2 ++ ([(⟨so11.1, so11.2.1, so11.2.2.1, so11.2.2.2⟩ : S_hachureref04qRest)] : List S_hachureref04qRest)).flatMap cel107), .cells [vi x9.Board, vi x9.Lo, vi x9.Hi], .cells [vb so11.1, .d (L3 so11.2.1), vi so11.2.2.1, vi so11.2.2.2]]) (ps := []) tt_ok (ks := [1, 2, 3, 4, 9, 10, 11]) (hs := []) (by kernel_rfl) trivial ?_
            exact awpN_wk 3 [1, 2, 3, 4, 9, 10, 11] (by kernel_rfl) _ _ (by kernel_rfl) (by kernel_rfl) (hrn5 ((w64 (c4.1 + 1)), (c4.2 ++ ([(⟨so11.1, so11.2.1, so11.2.2.1, so11.2.2.2⟩ : S_hachureref04qRest)] : List S_hachureref04qRest))) h)
    · rw [if_neg (ntrue hb6)] at h
      refine awp_exit ?_
      obtain rfl := Option.some.inj h
      exact Sel.mk [0, 1, 2] [10] (by kernel_rfl) (by kernel_rfl) (by kernel_rfl) OutQ.norm
  · intro e T H hq
    cases o3 with
    | inl ro3 =>
      obtain ⟨rfl, rfl, rfl⟩ := hq
      rw [outK_inl] at h
      obtain rfl := Option.some.inj h
      exact main_ret (by kernel_rfl)
    | inr so3 =>
      obtain ⟨rfl, rfl, rfl⟩ := hq
      rw [outK_inr] at h
      show awp _ _ _ _ _ _ _ _
      refine awp_sreg tt_ok (ks := [8]) (hs := []) [(8, .sl 4 2 0 so3.length)] [.cells [vi p_r.Steep, .d (L58 p_r.Points)], .cells [vi x1.Board, vi x1.Lo, vi x1.Hi], .data (so3.flatMap cel107)] [] (by kernel_rfl) trivial ?_
      obtain rfl := Option.some.inj h
      refine awp_wk 3 [8] (by kernel_rfl) [(8, .sl 4 2 0 so3.length)] [.cells [vi p_r.Steep, .d (L58 p_r.Points)], .cells [vi x1.Board, vi x1.Lo, vi x1.Hi], .data (so3.flatMap cel107)] (by kernel_rfl) (by kernel_rfl) ?_
      refine awp_freeze 8 2 (so3.flatMap cel107) (.sl 4 2 0 so3.length) (.d (L107 so3)) _ _ (ps := [(so3.flatMap cel107).length = so3.length * 4]) (by kernel_rfl) (by kernel_rfl) (by kernel_rfl) (flatMap_len cel107 4 cel107_len so3) rfl rfl ?_
      refine awp_wk 3 [8] (by kernel_rfl) [(8, .d (L107 so3))] [.cells [vi p_r.Steep, .d (L58 p_r.Points)], .cells [vi x1.Board, vi x1.Lo, vi x1.Hi], .data (([] : List S_hachureref04qRest).flatMap cel107)] (by kernel_rfl) (by kernel_rfl) ?_
      exact awp_ret (main_ret (by kernel_rfl))

set_option maxRecDepth 100000 in
theorem ct37 {fuel : Nat}  {p_r : S_api_CvRow} {passes : Bool} {res : (List Int) × Int × Int × Int} (h : F37 fuel p_r passes = some res) : PCall Try.prog 37 [(.agg [(di p_r.Steep), (L58 p_r.Points)]), (db passes)] (.tup [.d (L3 res.1), vi res.2.1, vi res.2.2.1, vi res.2.2.2]) := by
  refine PCall.of_awp tt_ok (N := 116) Try.func37 rfl (by kernel_rfl) rfl (Nat.le_of_ble_eq_true rfl) rfl ?_
  unfold F37 at h
  refine awp_sreg tt_ok (ks := [1, 2]) (hs := []) [(1, vb passes), (2, .ref 0 0)] [.cells [vi p_r.Steep, .d (L58 p_r.Points)]] [] (by kernel_rfl) trivial ?_
  obtain ⟨x1, hx1, h⟩ := Option.bind_eq_some_iff.1 h
  refine awp_sreg tt_ok (ks := [1, 2, 10]) (hs := [.no, .call [(.agg [(di p_r.Steep), (L58 p_r.Points)])] (.tup [vi x1.1, vi x1.2.1, vi x1.2.2])]) [(1, vb passes), (2, .ref 0 0), (10, vi x1.2.2)] [.cells [vi p_r.Steep, .d (L58 p_r.Points)]] [PCall Try.prog 17 [(.agg [(di p_r.Steep), (L58 p_r.Points)])] (.tup [vi x1.1, vi x1.2.1, vi x1.2.2])] (by kernel_rfl) (ct17 hx1) ?_
  refine awp_seq ?_
  obtain ⟨x2, hx2, h⟩ := Option.bind_eq_some_iff.1 h
  refine awp_sreg tt_ok (ks := [1, 2, 10, 32]) (hs := [.no, .no, .no, .no, .no, .no, .call [(.agg [(di p_r.Steep), (L58 p_r.Points)]), (di p_r.Steep)] (vb x2)]) [(1, vb passes), (2, .ref 0 0), (10, vi x1.2.2), (32, vb (cond (x1.2.2 == 0) (!x2) false))] [.cells [vi p_r.Steep, .d (L58 p_r.Points)]] [((x1.2.2 == 0) = true → (x1.2.2 == 0) = true), ((x1.2.2 == 0) = true → (x1.2.2 == 0) = true), ((x1.2.2 == 0) = true → (x1.2.2 == 0) = true), ((x1.2.2 == 0) = true → PCall Try.prog 52 [(.agg [(di p_r.Steep), (L58 p_r.Points)]), (di p_r.Steep)] (vb x2)), ((x1.2.2 == 0) = true → (x1.2.2 == 0) = true), ((x1.2.2 == 0) = true → (x1.2.2 == 0) = true)] (by kernel_rfl) (And.intro (id) (And.intro (id) (And.intro (id) (And.intro ((fun hg => ct52 (optG_of hx2 hg))) (And.intro (id) (id)))))) ?_
  obtain ⟨o3, ho3, h⟩ := Option.bind_eq_some_iff.1 h
  refine awp_cut1 (OutQ (fun (ro3 : (List Int) × Int × Int × Int) => [(4, .d (L3 ro3.1)), (5, vi ro3.2.1), (6, vi ro3.2.2.1), (7, vi ro3.2.2.2)]) (fun (ro3 : (List Int) × Int × Int × Int) => []) (fun (so3 : Int) => [(1, vb passes), (2, .ref 0 0), (10, vi so3)]) (fun (so3 : Int) => [.cells [vi p_r.Steep, .d (L58 p_r.Points)]]) o3) ?_ ?_
  · clear h
    have h := ho3
    clear ho3
    refine awp_selQ ?_
    refine awp_cond (b := (cond (x1.2.2 == 0) (!x2) false)) (by kernel_rfl) (fun hb4 => ?_) (fun hb4 => ?_)
    · rw [if_pos hb4] at h
      refine awp_region (T' := [(1, vb passes), (2, .ref 0 0), (10, vi 9)]) (H' := [.cells [vi p_r.Steep, .d (L58 p_r.Points)]]) (ps := []) tt_ok (ks := [1, 2, 10]) (hs := []) (by kernel_rfl) trivial ?_
      obtain rfl := Option.some.inj h
      exact Sel.mk [0] [1, 2, 10] (by kernel_rfl) (by kernel_rfl) (by kernel_rfl) OutQ.norm
    · rw [if_neg (ntrue hb4)] at h
      refine awp_skip ?_
      obtain rfl := Option.some.inj h
      exact Sel.mk [0] [1, 2, 10] (by kernel_rfl) (by kernel_rfl) (by kernel_rfl) OutQ.norm
  · intro e T H hq
    cases o3 with
    | inl ro3 =>
      obtain ⟨rfl, rfl, rfl⟩ := hq
      rw [outK_inl] at h
      obtain rfl := Option.some.inj h
      exact main_ret (by kernel_rfl)
    | inr so3 =>
      obtain ⟨rfl, rfl, rfl⟩ := hq
      rw [outK_inr] at h
      show awp _ _ _ _ _ _ _ _
      refine awp_seq ?_
      refine awp_sreg tt_ok (ks := [1, 2, 10, 34]) (hs := []) [(1, vb passes), (2, .ref 0 0), (10, vi so3), (34, vb (so3 != 0))] [.cells [vi p_r.Steep, .d (L58 p_r.Points)]] [] (by kernel_rfl) trivial ?_
      refine awp_cond (b := (so3 != 0)) (by kernel_rfl) (fun hb5 => ?_) (fun hb5 => ?_)
      · rw [if_pos hb5] at h
        refine awp_sreg tt_ok (ks := [4, 5, 6, 7]) (hs := []) [(4, .d dnil), (5, vi 0), (6, vi 0), (7, vi so3)] [.cells [vi p_r.Steep, .d (L58 p_r.Points)]] [] (by kernel_rfl) trivial ?_
        obtain rfl := Option.some.inj h
        refine awp_wk 1 [4, 5, 6, 7] (by kernel_rfl) [(4, .d dnil), (5, vi 0), (6, vi 0), (7, vi so3)] [.cells [vi p_r.Steep, .d (L58 p_r.Points)]] (by kernel_rfl) (by kernel_rfl) ?_
        refine awp_laxT 4 _ (L3 ([] : List Int)) _ (by kernel_rfl) (.nil (e := 1)) rfl ?_
        refine awp_wk 1 [4, 5, 6, 7] (by kernel_rfl) [(4, .d (L3 ([] : List Int))), (5, vi 0), (6, vi 0), (7, vi so3)] [.cells [vi p_r.Steep, .d (L58 p_r.Points)]] (by kernel_rfl) (by kernel_rfl) ?_
        exact awp_ret (main_ret (by kernel_rfl))
      · rw [if_neg (ntrue hb5)] at h
        refine awp_skip ?_
        show awp _ _ _ _ _ _ _ _
        refine awp_sreg tt_ok (ks := [1, 2, 11]) (hs := []) [(1, vb passes), (2, .ref 0 0), (11, .d dnil)] [.cells [vi p_r.Steep, .d (L58 p_r.Points)]] [] (by kernel_rfl) trivial ?_
        refine awp_seq ?_
        refine awp_sreg tt_ok (ks := [1, 2, 11, 12]) (hs := []) [(1, vb passes), (2, .ref 0 0), (11, .d dnil), (12, vi (w64 ((p_r.Points.length : Int) - 1)))] [.cells [vi p_r.Steep, .d (L58 p_r.Points)]] [] (by kernel_rfl) trivial ?_
        refine awp_laxT 11 _ (L107 ([] : List S_hachureref04qRest)) [(11, .d (L107 ([] : List S_hachureref04qRest))), (1, vb passes), (2, .ref 0 0), (12, vi (w64 ((p_r.Points.length : Int) - 1)))] (by kernel_rfl) (.nil (e := 4)) (by kernel_rfl) ?_
        refine awp_wk 1 [1, 2, 11, 12] (by kernel_rfl) [(1, vb passes), (2, .ref 0 0), (11, .d (L107 ([] : List S_hachureref04qRest))), (12, vi (w64 ((p_r.Points.length : Int) - 1)))] [.cells [vi p_r.Steep, .d (L58 p_r.Points)]] (by kernel_rfl) (by kernel_rfl) ?_
        obtain ⟨o7, ho7, h⟩ := Option.bind_eq_some_iff.1 h
        refine awp_cut1 (OutQ (fun (ro7 : (List Int) × Int × Int × Int) => [(4, .d (L3 ro7.1)), (5, vi ro7.2.1), (6, vi ro7.2.2.1), (7, vi ro7.2.2.2)]) (fun (ro7 : (List Int) × Int × Int × Int) => []) (fun (so7 : (List S_hachureref04qRest)) => [(1, vb passes), (2, .ref 0 0), (11, .d (L107 so7))]) (fun (so7 : (List S_hachureref04qRest)) => [.cells [vi p_r.Steep, .d (L58 p_r.Points)]]) o7) ?_ ?_
        · clear h
          have h := ho7
          clear ho7
          refine awp_selQ ?_
          refine awp_wk 1 [1, 2, 11, 12] (by kernel_rfl) [(1, vb passes), (2, .ref 0 0), (11, .d (L107 ([] : List S_hachureref04qRest))), (12, vi (w64 ((p_r.Points.length : Int) - 1)))] [.cells [vi p_r.Steep, .d (L58 p_r.Points)]] (by kernel_rfl) (by kernel_rfl) ?_
          refine awp_block ?_
          refine awp_loop (n := fuel) ?_
          refine awpN_ind (fun n (c8 : (List S_hachureref04qRest) × Int) => F37L1 fuel p_r passes n c8) o7 (fun (c8 : (List S_hachureref04qRest) × Int) => [(1, vb passes), (2, .ref 0 0), (11, .d (L107 c8.1)), (12, vi c8.2)]) (fun (c8 : (List S_hachureref04qRest) × Int) => [.cells [vi p_r.Steep, .d (L58 p_r.Points)]]) (fun _ => rfl) ?_ fuel (([] : List S_hachureref04qRest), (w64 ((p_r.Points.length : Int) - 1))) h
          clear h
          intro n9 c8 h hrn9
          change F37L1 fuel p_r passes (n9 + 1) c8 = some o7 at h
          rw [F37L1] at h
          refine awp_seq ?_
          refine awp_sreg tt_ok (ks := [1, 2, 11, 12, 41]) (hs := []) [(1, vb passes), (2, .ref 0 0), (11, .d (L107 c8.1)), (12, vi c8.2), (41, vb (decide (c8.2 ≥ 0)))] [.cells [vi p_r.Steep, .d (L58 p_r.Points)]] [] (by kernel_rfl) trivial ?_
          refine awp_cond (b := (decide (c8.2 ≥ 0))) (by kernel_rfl) (fun hb10 => ?_) (fun hb10 => ?_)
          · rw [if_pos hb10] at h
            refine awp_skip ?_
            show awp _ _ _ _ _ _ _ _
            refine awp_seq ?_
            refine awp_block ?_
            obtain ⟨x11, hx11, h⟩ := Option.bind_eq_some_iff.1 h
            refine awp_region (T' := [(1, vb passes), (2, .ref 0 0), (11, .d (L107 x11)), (12, vi c8.2)]) (H' := [.cells [vi p_r.Steep, .d (L58 p_r.Points)]]) (ps := [PCall Try.prog 69 [(.agg [(di p_r.Steep), (L58 p_r.Points)]), (di c8.2), (L107 c8.1), (db passes)] (.d (L107 x11))]) tt_ok (ks := [1, 2, 11, 12]) (hs := [.no, .no, .no, .no, .call [(.agg [(di p_r.Steep), (L58 p_r.Points)]), (di c8.2), (L107 c8.1), (db passes)] (.d (L107 x11))]) (by kernel_rfl) (ct69v1 hx11) ?_
            show awp _ _ _ _ _ _ _ _
            refine awp_region (T' := [(1, vb passes), (2, .ref 0 0), (11, .d (L107 x11)), (12, vi (w64 (c8.2 - 1)))]) (H' := [.cells [vi p_r.Steep, .d (L58 p_r.Points)]]) (ps := []) tt_ok (ks := [1, 2, 11, 12]) (hs := []) (by kernel_rfl) trivial ?_
            exact awpN_wk 1 [1, 2, 11, 12] (by kernel_rfl) _ _ (by kernel_rfl) (by kernel_rfl) (hrn9 (x11, (w64 (c8.2 - 1))) h)
          · rw [if_neg (ntrue hb10)] at h
            refine awp_exit ?_
            obtain rfl := Option.some.inj h
            exact Sel.mk [0] [1, 2, 11] (by kernel_rfl) (by kernel_rfl) (by kernel_rfl) OutQ.norm
        · intro e T H hq
          cases o7 with
          | inl ro7 =>
            obtain ⟨rfl, rfl, rfl⟩ := hq
            rw [outK_inl] at h
            obtain rfl := Option.some.inj h
            exact main_ret (by kernel_rfl)
          | inr so7 =>
            obtain ⟨rfl, rfl, rfl⟩ := hq
            rw [outK_inr] at h
            show awp _ _ _ _ _ _ _ _
            refine awp_sreg tt_ok (ks := [1, 2, 11, 13]) (hs := []) [(1, vb passes), (2, .ref 0 0), (11, .d (L107 so7)), (13, .ref 1 0)] [.cells [vi p_r.Steep, .d (L58 p_r.Points)], .cells [vb false, .d dnil, vi 0, vi 0]] [] (by kernel_rfl) trivial ?_
            obtain ⟨x12, hx12, h⟩ := Option.bind_eq_some_iff.1 h
            refine awp_sreg tt_ok (ks := [1, 11, 13, 14]) (hs := [.no, .no, .cells (cel58 x12)]) [(1, vb passes), (11, .d (L107 so7)), (13, .ref 1 0), (14, .ref 2 0)] [.cells [vi p_r.Steep, .d (L58 p_r.Points)], .cells [vb false, .d dnil, vi 0, vi 0], .cells [vi x12.Board, vi x12.Lo, vi x12.Hi]] [IX58 p_r.Points 0 x12] (by kernel_rfl) (idxOk cel58_len hx12) ?_
            refine awp_seq ?_
            refine awp_sreg tt_ok (ks := [1, 11, 13, 14, 15]) (hs := []) [(1, vb passes), (11, .d (L107 so7)), (13, .ref 1 0), (14, .ref 2 0), (15, vi 0)] [.cells [vi p_r.Steep, .d (L58 p_r.Points)], .cells [vb false, .d dnil, vi 0, vi 0], .cells [vi x12.Board, vi x12.Lo, vi x12.Hi]] [] (by kernel_rfl) trivial ?_
            refine awp_laxC 1 1 _ (L3 ([] : List Int)) [vb false, .d dnil, vi 0, vi 0] [.cells [vi p_r.Steep, .d (L58 p_r.Points)], .cells [vb false, .d (L3 ([] : List Int)), vi 0, vi 0], .cells [vi x12.Board, vi x12.Lo, vi x12.Hi]] (by kernel_rfl) (by kernel_rfl) (.nil (e := 1)) (by kernel_rfl) ?_
            refine awp_wk 3 [1, 11, 13, 14, 15] (by kernel_rfl) [(1, vb passes), (11, .d (L107 so7)), (13, .ref 1 0), (14, .ref 2 0), (15, vi 0)] [.cells [vi p_r.Steep, .d (L58 p_r.Points)], .cells [vb false, .d (L3 ([] : List Int)), vi 0, vi 0], .cells [vi x12.Board, vi x12.Lo, vi x12.Hi]] (by kernel_rfl) (by kernel_rfl) ?_
            obtain ⟨o14, ho14, h⟩ := Option.bind_eq_some_iff.1 h
            refine awp_cut1 (OutQ (fun (ro14 : (List Int) × Int × Int × Int) => [(4, .d (L3 ro14.1)), (5, vi ro14.2.1), (6, vi ro14.2.2.1), (7, vi ro14.2.2.2)]) (fun (ro14 : (List Int) × Int × Int × Int) => []) (fun (so14 : Bool × (List Int) × Int × Int) => [(13, .ref 1 0)]) (fun (so14 : Bool × (List Int) × Int × Int) => [.cells [vi p_r.Steep, .d (L58 p_r.Points)], .cells [vb so14.1, .d (L3 so14.2.1), vi so14.2.2.1, vi so14.2.2.2], .cells [vi x12.Board, vi x12.Lo, vi x12.Hi]]) o14) ?_ ?_
            · clear h
              have h := ho14
              clear ho14
              refine awp_selQ ?_
              refine awp_wk 3 [1, 11, 13, 14, 15] (by kernel_rfl) [(1, vb passes), (11, .d (L107 so7)), (13, .ref 1 0), (14, .ref 2 0), (15, vi 0)] [.cells [vi p_r.Steep, .d (L58 p_r.Points)], .cells [vb false, .d (L3 ([] : List Int)), vi 0, vi 0], .cells [vi x12.Board, vi x12.Lo, vi x12.Hi]] (by kernel_rfl) (by kernel_rfl) ?_
              refine awp_block ?_
              refine awp_loop (n := fuel) ?_
              refine awpN_ind (fun n (c15 : Int × Bool × (List Int) × Int × Int) => F37L2 passes so7 x12 n c15) o14 (fun (c15 : Int × Bool × (List Int) × Int × Int) => [(1, vb passes), (11, .d (L107 so7)), (13, .ref 1 0), (14, .ref 2 0), (15, vi c15.1)]) (fun (c15 : Int × Bool × (List Int) × Int × Int) => [.cells [vi p_r.Steep, .d (L58 p_r.Points)], .cells [vb c15.2.1, .d (L3 c15.2.2.1), vi c15.2.2.2.1, vi c15.2.2.2.2], .cells [vi x12.Board, vi x12.Lo, vi x12.Hi]]) (fun _ => rfl) ?_ fuel (0, false, ([] : List Int), 0, 0) h
              clear h
              intro n16 c15 h hrn16
              change F37L2 passes so7 x12 (n16 + 1) c15 = some o14 at h
              rw [F37L2] at h
              refine awp_seq ?_
              refine awp_sreg tt_ok (ks := [1, 11, 13, 14, 15, 56]) (hs := []) [(1, vb passes), (11, .d (L107 so7)), (13, .ref 1 0), (14, .ref 2 0), (15, vi c15.1), (56, vb (decide (c15.1 < (so7.length : Int))))] [.cells [vi p_r.Steep, .d (L58 p_r.Points)], .cells [vb c15.2.1, .d (L3 c15.2.2.1), vi c15.2.2.2.1, vi c15.2.2.2.2], .cells [vi x12.Board, vi x12.Lo, vi x12.Hi]] [] (by kernel_rfl) trivial ?_
              refine awp_cond (b := (decide (c15.1 < (so7.length : Int)))) (by kernel_rfl) (fun hb17 => ?_) (fun hb17 => ?_)
              · rw [if_pos hb17] at h
                refine awp_skip ?_
                show awp _ _ _ _ _ _ _ _
                refine awp_seq ?_
                refine awp_block ?_
                refine awp_seq ?_
                obtain ⟨x18, hx18, h⟩ := Option.bind_eq_some_iff.1 h
                refine awp_sreg tt_ok (ks := [1, 11, 13, 14, 15, 64]) (hs := [.no, .no, .cells (cel107 x18)]) [(1, vb passes), (11, .d (L107 so7)), (13, .ref 1 0), (14, .ref 2 0), (15, vi c15.1), (64, vb (!x18.Is))] [.cells [vi p_r.Steep, .d (L58 p_r.Points)], .cells [vb c15.2.1, .d (L3 c15.2.2.1), vi c15.2.2.2.1, vi c15.2.2.2.2], .cells [vi x12.Board, vi x12.Lo, vi x12.Hi]] [IX107 so7 c15.1 x18] (by kernel_rfl) (idxOk cel107_len hx18) ?_
                refine awp_cond (b := (!x18.Is)) (by kernel_rfl) (fun hb19 => ?_) (fun hb19 => ?_)
                · rw [if_pos hb19] at h
                  refine awp_exit ?_
                  show awp _ _ _ _ _ _ _ _
                  refine awp_region (T' := [(1, vb passes), (11, .d (L107 so7)), (13, .ref 1 0), (14, .ref 2 0), (15, vi (w64 (c15.1 + 1)))]) (H' := [.cells [vi p_r.Steep, .d (L58 p_r.Points)], .cells [vb c15.2.1, .d (L3 c15.2.2.1), vi c15.2.2.2.1, vi c15.2.2.2.2], .cells [vi x12.Board, vi x12.Lo, vi x12.Hi]]) (ps := []) tt_ok (ks := [1, 11, 13, 14, 15]) (hs := []) (by kernel_rfl) trivial ?_
                  exact awpN_wk 3 [1, 11, 13, 14, 15] (by kernel_rfl) _ _ (by kernel_rfl) (by kernel_rfl) (hrn16 ((w64 (c15.1 + 1)), c15.2.1, c15.2.2.1, c15.2.2.2.1, c15.2.2.2.2) h)
                · rw [if_neg (ntrue hb19)] at h
                  refine awp_skip ?_
                  show awp _ _ _ _ _ _ _ _
                  refine awp_sreg tt_ok (ks := [1, 11, 13, 14, 15, 16]) (hs := []) [(1, vb passes), (11, .d (L107 so7)), (13, .ref 1 0), (14, .ref 2 0), (15, vi c15.1), (16, vi (w64 (x12.Lo + c15.1)))] [.cells [vi p_r.Steep, .d (L58 p_r.Points)], .cells [vb c15.2.1, .d (L3 c15.2.2.1), vi c15.2.2.2.1, vi c15.2.2.2.2], .cells [vi x12.Board, vi x12.Lo, vi x12.Hi]] [] (by kernel_rfl) trivial ?_
                  refine awp_res [.cells [vi p_r.Steep, .d (L58 p_r.Points)], .cells [vb c15.2.1, .d (L3 c15.2.2.1), vi c15.2.2.2.1, vi c15.2.2.2.2], .cells [vi x12.Board, vi x12.Lo, vi x12.Hi], .data []] (by kernel_rfl) ?_
                  obtain ⟨x20, hx20, h⟩ := Option.bind_eq_some_iff.1 h
                  obtain ⟨x21, hx21, h⟩ := Option.bind_eq_some_iff.1 h
                  obtain ⟨x22, hx22, h⟩ := Option.bind_eq_some_iff.1 h
                  obtain ⟨x23, hx23, h⟩ := Option.bind_eq_some_iff.1 h
                  refine awp_seq (awp_any (T' := [(1, vb passes), (11, .d (L107 so7)), (13, .ref 1 0), (14, .ref 2 0), (15, vi c15.1), (17, .ref 3 0)]) (H' := [.cells [vi p_r.Steep, .d (L58 p_r.Points)], .cells [vb c15.2.1, .d (L3 c15.2.2.1), vi c15.2.2.2.1, vi c15.2.2.2.2], .cells [vi x12.Board, vi x12.Lo, vi x12.Hi], .cells [vb true, .d (L3 (([(w64 (x12.Lo + c15.1))] : List Int) ++ x20.Surface)), vi (w64 (x22.Plaster + (if (w64 ((w64 (x12.Lo + c15.1)) - x12.Board)) > 0 then (w64 ((w64 (x12.Lo + c15.1)) - x12.Board)) else 0))), vi (w64 (x23.Many + (if (w64 (x12.Board - (w64 (x12.Lo + c15.1)))) > 0 then (w64 (x12.Board - (w64 (x12.Lo + c15.1)))) else 0)))]]) (ps := [IX107 so7 c15.1 x20, AppendOk ((([(w64 (x12.Lo + c15.1))] : List Int).flatMap cel3).map .d) ([(w64 (x12.Lo + c15.1))] : List Int).length x20.Surface.length (([(w64 (x12.Lo + c15.1))] : List Int) ++ x20.Surface).length 1 8 (x20.Surface.flatMap cel3) ((([(w64 (x12.Lo + c15.1))] : List Int) ++ x20.Surface).flatMap cel3), IX107 so7 c15.1 x22, IX107 so7 c15.1 x23]) tt_ok mixed (ks := [1, 11, 13, 14, 15, 17]) (hs := [.no, .cells [], .no, .no, .cells (cel107 x20), .no, .no, .listT (([(w64 (x12.Lo + c15.1))] : List Int) ++ x20.Surface).length ((([(w64 (x12.Lo + c15.1))] : List Int) ++ x20.Surface).flatMap cel3), .no, .no, .cells (cel107 x22), .no, .no, .no, .no, .no, .no, .no, .no, .no, .no, .cells (cel107 x23), .no, .no, .no, .no, .no, .no, .no, .no, .no, .res 3]) (m := 32) (mid := [1, 11, 13, 14, 15, 17, 99]) (by kernel_rfl) (And.intro (idxOk cel107_len hx20) (And.intro (appendOk cel3_len (need_of hx21)) (And.intro (idxOk cel107_len hx22) (idxOk cel107_len hx23)))) ?_)
                  show awp _ _ _ _ _ _ _ _
                  obtain ⟨x24, hx24, h⟩ := Option.bind_eq_some_iff.1 h
                  refine awp_sreg tt_ok (ks := [1, 11, 13, 14, 15, 17, 108]) (hs := [.no, .no, .no, .no, .no, .no, .no, .call [(.agg [(db true), (L3 (([(w64 (x12.Lo + c15.1))] : List Int) ++ x20.Surface)), (di (w64 (x22.Plaster + (if (w64 ((w64 (x12.Lo + c15.1)) - x12.Board)) > 0 then (w64 ((w64 (x12.Lo + c15.1)) - x12.Board)) else 0)))), (di (w64 (x23.Many + (if (w64 (x12.Board - (w64 (x12.Lo + c15.1)))) > 0 then (w64 (x12.Board - (w64 (x12.Lo + c15.1)))) else 0))))]), (.agg [(db c15.2.1), (L3 c15.2.2.1), (di c15.2.2.2.1), (di c15.2.2.2.2)]), (db passes)] (vb x24)]) [(1, vb passes), (11, .d (L107 so7)), (13, .ref 1 0), (14, .ref 2 0), (15, vi c15.1), (17, .ref 3 0), (108, vb (cond (!c15.2.1) true x24))] [.cells [vi p_r.Steep, .d (L58 p_r.Points)], .cells [vb c15.2.1, .d (L3 c15.2.2.1), vi c15.2.2.2.1, vi c15.2.2.2.2], .cells [vi x12.Board, vi x12.Lo, vi x12.Hi], .cells [vb true, .d (L3 (([(w64 (x12.Lo + c15.1))] : List Int) ++ x20.Surface)), vi (w64 (x22.Plaster + (if (w64 ((w64 (x12.Lo + c15.1)) - x12.Board)) > 0 then (w64 ((w64 (x12.Lo + c15.1)) - x12.Board)) else 0))), vi (w64 (x23.Many + (if (w64 (x12.Board - (w64 (x12.Lo + c15.1)))) > 0 then (w64 (x12.Board - (w64 (x12.Lo + c15.1)))) else 0)))]] [((!(!c15.2.1)) = true → (!(!c15.2.1)) = true), ((!(!c15.2.1)) = true → (!(!c15.2.1)) = true), ((!(!c15.2.1)) = true → (!(!c15.2.1)) = true), ((!(!c15.2.1)) = true → PCall Try.prog 70 [(.agg [(db true), (L3 (([(w64 (x12.Lo + c15.1))] : List Int) ++ x20.Surface)), (di (w64 (x22.Plaster + (if (w64 ((w64 (x12.Lo + c15.1)) - x12.Board)) > 0 then (w64 ((w64 (x12.Lo + c15.1)) - x12.Board)) else 0)))), (di (w64 (x23.Many + (if (w64 (x12.Board - (w64 (x12.Lo + c15.1)))) > 0 then (w64 (x12.Board - (w64 (x12.Lo + c15.1)))) else 0))))]), (.agg [(db c15.2.1), (L3 c15.2.2.1), (di c15.2.2.2.1), (di c15.2.2.2.2)]), (db passes)] (vb x24)), ((!c15.2.1) = false → (!(!c15.2.1)) = true)] (by kernel_rfl) (And.intro (id) (And.intro (id) (And.intro (id) (And.intro ((fun hg => ct70v1 (optG_of hx24 hg))) (not_of))))) ?_
                  refine awp_cond (b := (cond (!c15.2.1) true x24)) (by kernel_rfl) (fun hb25 => ?_) (fun hb25 => ?_)
                  · rw [if_pos hb25] at h
                    refine awp_region (T' := [(1, vb passes), (11, .d (L107 so7)), (13, .ref 1 0), (14, .ref 2 0), (15, vi c15.1)]) (H' := [.cells [vi p_r.Steep, .d (L58 p_r.Points)], .cells [vb true, .d (L3 (([(w64 (x12.Lo + c15.1))] : List Int) ++ x20.Surface)), vi (w64 (x22.Plaster + (if (w64 ((w64 (x12.Lo + c15.1)) - x12.Board)) > 0 then (w64 ((w64 (x12.Lo + c15.1)) - x12.Board)) else 0))), vi (w64 (x23.Many + (if (w64 (x12.Board - (w64 (x12.Lo + c15.1)))) > 0 then (w64 (x12.Board - (w64 (x12.Lo + c15.1)))) else 0)))], .cells [vi x12.Board, vi x12.Lo, vi x12.Hi], .cells [vb true, .d (L3 (([(w64 (x12.Lo + c15.1))] : List Int) ++ x20.Surface)), vi (w64 (x22.Plaster + (if (w64 ((w64 (x12.Lo + c15.1)) - x12.Board)) > 0 then (w64 ((w64 (x12.Lo + c15.1)) - x12.Board)) else 0))), vi (w64 (x23.Many + (if (w64 (x12.Board - (w64 (x12.Lo + c15.1)))) > 0 then (w64 (x12.Board - (w64 (x12.Lo + c15.1)))) else 0)))]]) (ps := []) tt_ok (ks := [1, 11, 13, 14, 15]) (hs := []) (by kernel_rfl) trivial ?_
                    show awp _ _ _ _ _ _ _ _
                    refine awp_region (T' := [(1, vb passes), (11, .d (L107 so7)), (13, .ref 1 0), (14, .ref 2 0), (15, vi (w64 (c15.1 + 1)))]) (H' := [.cells [vi p_r.Steep, .d (L58 p_r.Points)], .cells [vb true, .d (L3 (([(w64 (x12.Lo + c15.1))] : List Int) ++ x20.Surface)), vi (w64 (x22.Plaster + (if (w64 ((w64 (x12.Lo + c15.1)) - x12.Board)) > 0 then (w64 ((w64 (x12.Lo + c15.1)) - x12.Board)) else 0))), vi (w64 (x23.Many + (if (w64 (x12.Board - (w64 (x12.Lo + c15.1)))) > 0 then (w64 (x12.Board - (w64 (x12.Lo + c15.1)))) else 0)))], .cells [vi x12.Board, vi x12.Lo, vi x12.Hi], .cells [vb true, .d (L3 (([(w64 (x12.Lo + c15.1))] : List Int) ++ x20.Surface)), vi (w64 (x22.Plaster + (if (w64 ((w64 (x12.Lo + c15.1)) - x12.Board)) > 0 then (w64 ((w64 (x12.Lo + c15.1)) - x12.Board)) else 0))), vi (w64 (x23.Many + (if (w64 (x12.Board - (w64 (x12.Lo + c15.1)))) > 0 then (w64 (x12.Board - (w64 (x12.Lo + c15.1)))) else 0)))]]) (ps := []) tt_ok (ks := [1, 11, 13, 14, 15]) (hs := []) (by kernel_rfl) trivial ?_
                    exact awpN_wk 3 [1, 11, 13, 14, 15] (by kernel_rfl) _ _ (by kernel_rfl) (by kernel_rfl) (hrn16 ((w64 (c15.1 + 1)), true, (([(w64 (x12.Lo + c15.1))] : List Int) ++ x20.Surface), (w64 (x22.Plaster + (if (w64 ((w64 (x12.Lo + c15.1)) - x12.Board)) > 0 then (w64 ((w64 (x12.Lo + c15.1)) - x12.Board)) else 0))), (w64 (x23.Many + (if (w64 (x12.Board - (w64 (x12.Lo + c15.1)))) > 0 then (w64 (x12.Board - (w64 (x12.Lo + c15.1)))) else 0)))) h)
                  · rw [if_neg (ntrue hb25)] at h
                    refine awp_skip ?_
                    show awp _ _ _ _ _ _ _ _
                    refine awp_region (T' := [(1, vb passes), (11, .d (L107 so7)), (13, .ref 1 0), (14, .ref 2 0), (15, vi (w64 (c15.1 + 1)))]) (H' := [.cells [vi p_r.Steep, .d (L58 p_r.Points)], .cells [vb c15.2.1, .d (L3 c15.2.2.1), vi c15.2.2.2.1, vi c15.2.2.2.2], .cells [vi x12.Board, vi x12.Lo, vi x12.Hi], .cells [vb true, .d (L3 (([(w64 (x12.Lo + c15.1))] : List Int) ++ x20.Surface)), vi (w64 (x22.Plaster + (if (w64 ((w64 (x12.Lo + c15.1)) - x12.Board)) > 0 then (w64 ((w64 (x12.Lo + c15.1)) - x12.Board)) else 0))), vi (w64 (x23.Many + (if (w64 (x12.Board - (w64 (x12.Lo + c15.1)))) > 0 then (w64 (x12.Board - (w64 (x12.Lo + c15.1)))) else 0)))]]) (ps := []) tt_ok (ks := [1, 11, 13, 14, 15]) (hs := []) (by kernel_rfl) trivial ?_
                    exact awpN_wk 3 [1, 11, 13, 14, 15] (by kernel_rfl) _ _ (by kernel_rfl) (by kernel_rfl) (hrn16 ((w64 (c15.1 + 1)), c15.2.1, c15.2.2.1, c15.2.2.2.1, c15.2.2.2.2) h)
              · rw [if_neg (ntrue hb17)] at h
                refine awp_exit ?_
                obtain rfl := Option.some.inj h
                exact Sel.mk [0, 1, 2] [13] (by kernel_rfl) (by kernel_rfl) (by kernel_rfl) OutQ.norm
            · intro e T H hq
              cases o14 with
              | inl ro14 =>
                obtain ⟨rfl, rfl, rfl⟩ := hq
                rw [outK_inl] at h
                obtain rfl := Option.some.inj h
                exact main_ret (by kernel_rfl)
              | inr so14 =>
                obtain ⟨rfl, rfl, rfl⟩ := hq
                rw [outK_inr] at h
                show awp _ _ _ _ _ _ _ _
                refine awp_sdraw tt_ok mixed (ks := [4, 5, 6, 7]) (hs := []) 8 [4, 5, 6, 7, 115] [(4, .d (L3 so14.2.1)), (5, vi so14.2.2.1), (6, vi so14.2.2.2), (7, vi 0)] [.cells [vi p_r.Steep, .d (L58 p_r.Points)], .cells [vb so14.1, .d (L3 so14.2.1), vi so14.2.2.1, vi so14.2.2.2], .cells [vi x12.Board, vi x12.Lo, vi x12.Hi]] [] (by kernel_rfl) trivial ?_
                obtain rfl := Option.some.inj h
                refine awp_wk 3 [4, 5, 6, 7] (by kernel_rfl) [(4, .d (L3 so14.2.1)), (5, vi so14.2.2.1), (6, vi so14.2.2.2), (7, vi 0)] [.cells [vi p_r.Steep, .d (L58 p_r.Points)], .cells [vb so14.1, .d (L3 so14.2.1), vi so14.2.2.1, vi so14.2.2.2], .cells [vi x12.Board, vi x12.Lo, vi x12.Hi]] (by kernel_rfl) (by kernel_rfl) ?_
                exact awp_ret (main_ret (by kernel_rfl))

set_option maxRecDepth 100000 in
theorem ct5 {fuel : Nat}  {p_r : S_api_CvRow} {res : Bool} (h : F5 fuel p_r = some res) : PCall Try.prog 5 [(.agg [(di p_r.Steep), (L58 p_r.Points)])] (vb res) := by
  refine PCall.of_awp tt_ok (N := 54) Try.func5 rfl (by kernel_rfl) rfl (Nat.le_of_ble_eq_true rfl) rfl ?_
  unfold F5 at h
  refine awp_sreg tt_ok (ks := [1]) (hs := []) [(1, .ref 0 0)] [.cells [vi p_r.Steep, .d (L58 p_r.Points)]] [] (by kernel_rfl) trivial ?_
  refine awp_seq ?_
  refine awp_sreg tt_ok (ks := [1, 3]) (hs := []) [(1, .ref 0 0), (3, vi 0)] [.cells [vi p_r.Steep, .d (L58 p_r.Points)]] [] (by kernel_rfl) trivial ?_
  obtain ⟨o1, ho1, h⟩ := Option.bind_eq_some_iff.1 h
  refine awp_cut1 (OutQ (fun (ro1 : Bool) => [(2, vb ro1)]) (fun (ro1 : Bool) => []) (fun (so1 : Unit) => []) (fun (so1 : Unit) => [.cells [vi p_r.Steep, .d (L58 p_r.Points)]]) o1) ?_ ?_
  · clear h
    have h := ho1
    clear ho1
    refine awp_selQ ?_
    refine awp_wk 1 [1, 3] (by kernel_rfl) [(1, .ref 0 0), (3, vi 0)] [.cells [vi p_r.Steep, .d (L58 p_r.Points)]] (by kernel_rfl) (by kernel_rfl) ?_
    refine awp_block ?_
    refine awp_loop (n := fuel) ?_
    refine awpN_ind (fun n (c2 : Int) => F5L1 fuel p_r n c2) o1 (fun (c2 : Int) => [(1, .ref 0 0), (3, vi c2)]) (fun (c2 : Int) => [.cells [vi p_r.Steep, .d (L58 p_r.Points)]]) (fun _ => rfl) ?_ fuel 0 h
    clear h
    intro n3 c2 h hrn3
    change F5L1 fuel p_r (n3 + 1) c2 = some o1 at h
    rw [F5L1] at h
    refine awp_seq ?_
    refine awp_sreg tt_ok (ks := [1, 3, 13]) (hs := []) [(1, .ref 0 0), (3, vi c2), (13, vb (decide (c2 < 2)))] [.cells [vi p_r.Steep, .d (L58 p_r.Points)]] [] (by kernel_rfl) trivial ?_
    refine awp_cond (b := (decide (c2 < 2))) (by kernel_rfl) (fun hb4 => ?_) (fun hb4 => ?_)
    · rw [if_pos hb4] at h
      refine awp_skip ?_
      show awp _ _ _ _ _ _ _ _
      refine awp_seq ?_
      refine awp_block ?_
      obtain ⟨x5, hx5, h⟩ := Option.bind_eq_some_iff.1 h
      refine awp_sreg tt_ok (ks := [1, 3, 4, 5, 6, 7]) (hs := [.no, .no, .no, .call [(.agg [(di p_r.Steep), (L58 p_r.Points)]), (db (c2 == 1))] (.tup [.d (L3 x5.1), vi x5.2.1, vi x5.2.2.1, vi x5.2.2.2])]) [(1, .ref 0 0), (3, vi c2), (4, .d (L3 x5.1)), (5, vi x5.2.1), (6, vi x5.2.2.1), (7, vi x5.2.2.2)] [.cells [vi p_r.Steep, .d (L58 p_r.Points)]] [PCall Try.prog 36 [(.agg [(di p_r.Steep), (L58 p_r.Points)]), (db (c2 == 1))] (.tup [.d (L3 x5.1), vi x5.2.1, vi x5.2.2.1, vi x5.2.2.2])] (by kernel_rfl) (ct36 hx5) ?_
      obtain ⟨x6, hx6, h⟩ := Option.bind_eq_some_iff.1 h
      refine awp_sreg tt_ok (ks := [1, 3, 4, 5, 6, 7, 8, 9, 10, 11]) (hs := [.no, .no, .no, .call [(.agg [(di p_r.Steep), (L58 p_r.Points)]), (db (c2 == 1))] (.tup [.d (L3 x6.1), vi x6.2.1, vi x6.2.2.1, vi x6.2.2.2])]) [(1, .ref 0 0), (3, vi c2), (4, .d (L3 x5.1)), (5, vi x5.2.1), (6, vi x5.2.2.1), (7, vi x5.2.2.2), (8, .d (L3 x6.1)), (9, vi x6.2.1), (10, vi x6.2.2.1), (11, vi x6.2.2.2)] [.cells [vi p_r.Steep, .d (L58 p_r.Points)]] [PCall Try.prog 37 [(.agg [(di p_r.Steep), (L58 p_r.Points)]), (db (c2 == 1))] (.tup [.d (L3 x6.1), vi x6.2.1, vi x6.2.2.1, vi x6.2.2.2])] (by kernel_rfl) (ct37 hx6) ?_
      obtain ⟨x7, hx7, h⟩ := Option.bind_eq_some_iff.1 h
      refine awp_sreg tt_ok (ks := [1, 3, 52]) (hs := [.no, .no, .call [(L3 x5.1), (L3 x6.1)] (vb x7)]) [(1, .ref 0 0), (3, vi c2), (52, vb (cond (cond (cond (!x7) true (x5.2.1 != x6.2.1)) true (x5.2.2.1 != x6.2.2.1)) true (x5.2.2.2 != x6.2.2.2)))] [.cells [vi p_r.Steep, .d (L58 p_r.Points)]] [PCall Try.prog 35 [(L3 x5.1), (L3 x6.1)] (vb x7), ((!(!x7)) = true → (!(!x7)) = true), ((!(!x7)) = true → (!(!x7)) = true), ((!x7) = false → (!(!x7)) = true), ((!(cond (!x7) true (x5.2.1 != x6.2.1))) = true → (!(cond (!x7) true (x5.2.1 != x6.2.1))) = true), ((!(cond (!x7) true (x5.2.1 != x6.2.1))) = true → (!(cond (!x7) true (x5.2.1 != x6.2.1))) = true), ((cond (!x7) true (x5.2.1 != x6.2.1)) = false → (!(cond (!x7) true (x5.2.1 != x6.2.1))) = true), ((!(cond (cond (!x7) true (x5.2.1 != x6.2.1)) true (x5.2.2.1 != x6.2.2.1))) = true → (!(cond (cond (!x7) true (x5.2.1 != x6.2.1)) true (x5.2.2.1 != x6.2.2.1))) = true), ((!(cond (cond (!x7) true (x5.2.1 != x6.2.1)) true (x5.2.2.1 != x6.2.2.1))) = true → (!(cond (cond (!x7) true (x5.2.1 != x6.2.1)) true (x5.2.2.1 != x6.2.2.1))) = true), ((cond (cond (!x7) true (x5.2.1 != x6.2.1)) true (x5.2.2.1 != x6.2.2.1)) = false → (!(cond (cond (!x7) true (x5.2.1 != x6.2.1)) true (x5.2.2.1 != x6.2.2.1))) = true)] (by kernel_rfl) (And.intro (ct35 hx7) (And.intro (id) (And.intro (id) (And.intro (not_of) (And.intro (id) (And.intro (id) (And.intro (not_of) (And.intro (id) (And.intro (id) (not_of)))))))))) ?_
      refine awp_cond (b := (cond (cond (cond (!x7) true (x5.2.1 != x6.2.1)) true (x5.2.2.1 != x6.2.2.1)) true (x5.2.2.2 != x6.2.2.2))) (by kernel_rfl) (fun hb8 => ?_) (fun hb8 => ?_)
      · rw [if_pos hb8] at h
        refine awp_sreg tt_ok (ks := [2]) (hs := []) [(2, vb false)] [.cells [vi p_r.Steep, .d (L58 p_r.Points)]] [] (by kernel_rfl) trivial ?_
        obtain rfl := Option.some.inj h
        refine awp_wk 1 [2] (by kernel_rfl) [(2, vb false)] [.cells [vi p_r.Steep, .d (L58 p_r.Points)]] (by kernel_rfl) (by kernel_rfl) ?_
        exact awp_ret (Sel.mk [] [2] (by kernel_rfl) (by kernel_rfl) (by kernel_rfl) OutQ.ret)
      · rw [if_neg (ntrue hb8)] at h
        refine awp_skip ?_
        show awp _ _ _ _ _ _ _ _
        refine awp_region (T' := [(1, .ref 0 0), (3, vi (w64 (c2 + 1)))]) (H' := [.cells [vi p_r.Steep, .d (L58 p_r.Points)]]) (ps := []) tt_ok (ks := [1, 3]) (hs := []) (by kernel_rfl) trivial ?_
        exact awpN_wk 1 [1, 3] (by kernel_rfl) _ _ (by kernel_rfl) (by kernel_rfl) (hrn3 (w64 (c2 + 1)) h)
    · rw [if_neg (ntrue hb4)] at h
      refine awp_exit ?_
      obtain rfl := Option.some.inj h
      exact Sel.mk [0] [] (by kernel_rfl) (by kernel_rfl) (by kernel_rfl) OutQ.norm
  · intro e T H hq
    cases o1 with
    | inl ro1 =>
      obtain ⟨rfl, rfl, rfl⟩ := hq
      rw [outK_inl] at h
      obtain rfl := Option.some.inj h
      exact main_ret (by kernel_rfl)
    | inr so1 =>
      obtain ⟨rfl, rfl, rfl⟩ := hq
      rw [outK_inr] at h
      show awp _ _ _ _ _ _ _ _
      obtain ⟨x9, hx9, h⟩ := Option.bind_eq_some_iff.1 h
      refine awp_sreg tt_ok (ks := [2]) (hs := [.call [] (vb x9)]) [(2, vb x9)] [.cells [vi p_r.Steep, .d (L58 p_r.Points)]] [PCall Try.prog 25 [] (vb x9)] (by kernel_rfl) (ct25 hx9) ?_
      obtain rfl := Option.some.inj h
      refine awp_wk 1 [2] (by kernel_rfl) [(2, vb x9)] [.cells [vi p_r.Steep, .d (L58 p_r.Points)]] (by kernel_rfl) (by kernel_rfl) ?_
      exact awp_ret (main_ret (by kernel_rfl))
end Go.Proofs.Ytadejgckgnbaoaa
