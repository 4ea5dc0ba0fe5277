/- No painting has fewer different inks than that of Paint. -/
import Derived.Test.YtpkhbbboedoldaaP1
import Derived.Test.YtpkhbbboedoldaaPR
import Derived.Test.YtpkhbbboedoldaaPY
import Derived.Test.YtpkhbbboedoldaaDG
namespace Go.Proofs.Ytpkhbbboedoldaa
open Go Go.Sx
set_option linter.all false

theorem e50 {k : Nat} (hk : 20 ≤ k) {m : Mp} (g : GoodM m) {x : List Int} (hx : Tn x) : ∃ l, F50 k m x = some l ∧ l.length = m.Borders.length + 1 ∧ InB m l := by
  have hb1 := g.b1
  have hi0 := g.i0
  have hi1 := g.i1
  have key : ∀ (d n c : Nat) (acc : List Int), c + d = m.Borders.length + 1 → d < n → acc.length = c → InB m acc → ∃ l, F50L1 m x n ((c : Int), acc) = some (.inr l) ∧ l.length = m.Borders.length + 1 ∧ InB m l := by
    intro d
    induction d with
    | zero =>
      intro n c acc hc hn ha hb
      obtain ⟨n, rfl⟩ : ∃ m, n = m + 1 := ⟨n - 1, by omega⟩
      rw [F50L1, if_neg (by simp; omega)]
      exact ⟨acc, rfl, by omega, hb⟩
    | succ d ih =>
      intro n c acc hc hn ha hb
      obtain ⟨n, rfl⟩ : ∃ m, n = m + 1 := ⟨n - 1, by omega⟩
      obtain ⟨t, ht, ht0, ht1⟩ := e44 hx (i := (c : Int)) (by omega)
      have hr := tmod_room ht0 (show 0 < m.Inks by omega)
      rw [F50L1, if_pos (by simp; omega)]
      dsimp only
      rw [ht, Option.bind_some, need_true (by omega), Option.bind_some, need_true (by simp; omega), Option.bind_some, w64_id (by omega) (by omega), show (c : Int) + 1 = ((c + 1 : Nat) : Int) from by omega]
      exact ih n (c + 1) _ (by omega) (by omega) (by simp; omega) (hb.snoc hr)
  unfold F50
  obtain ⟨l, h1, h2⟩ := key (m.Borders.length + 1) k 0 [] (by omega) (by omega) rfl (fun e he => by cases he)
  rw [Int.natCast_zero] at h1
  rw [h1, Option.bind_some, outK_inr]
  exact ⟨l, rfl, h2⟩
theorem cnt_pos {x : List Int} (h : x ≠ []) : 1 ≤ cnt x := by
  cases x with
  | nil => exact absurd rfl h
  | cons a as => simp [cnt, cntG]

theorem law10 (m : Mp) (x y : List Int) (hl : Tn x) (ht : Tn y) : F10 200 m x y = some true := by
  unfold F10
  rw [e39 (by omega), Option.bind_some]
  by_cases h : (chk m).2.2 = 0
  · have g := chk_good.1 h
    have hb1 := g.b1
    rw [show ((chk m).2.2 == 0) = true from by simpa using h, Bool.not_true, if_neg (by simp)]
    obtain ⟨l, h1, h2⟩ := e40 (k := 200) (by omega) g hl
    rw [h1, Option.bind_some, e41 (by omega), Option.bind_some]
    by_cases h3 : (chkLeg m l).2 = 0
    · obtain ⟨_, gl⟩ := chkLeg_good.1 h3
      rw [show ((chkLeg m l).2 == 0) = true from by simpa using h3, Bool.not_true, if_neg (by simp)]
      obtain ⟨o, h4, h5, h6⟩ := e50 (k := 200) (by omega) g ht
      have hol : o.length = l.length + 1 := by omega
      have hE : inksE m l o = 0 := inksE_good.2 ⟨g, gl, hol, h6⟩
      have hnil := mist_nil hE
      have hm2 : (mist m l o).2 = 0 := by unfold mist; rw [if_pos hE]
      rw [e31 (by omega), Option.bind_some, h4, Option.bind_some, e33 (by omega), Option.bind_some, hm2, if_neg (by simp)]
      have hpos : (mist m l o).1 ≠ [] → decide (((mist m l o).1.length : Int) > 0) = true := by
        intro h
        have := List.length_pos_iff.2 h
        exact decide_eq_true (by omega)
      by_cases hp : paintS m l = []
      · have e1 : paints m l = ([], 0, 9) := by unfold paints; rw [if_pos h3, if_pos hp]
        have hne : (mist m l o).1 ≠ [] := fun hn => (paintS_least hol (hnil.1 hn) h6).1 hp
        rw [e1, if_pos (by rfl), hpos hne]
        dsimp only
        rw [show ((9 : Int) == 9) = true from rfl]
        simp only [cond_true, optG_true]
        rw [awake200]; rfl
      · have e1 : paints m l = (paintS m l, (cnt (paintS m l) : Int), 0) := by unfold paints; rw [if_pos h3, if_neg hp]
        have hc := cnt_pos hp
        rw [e1, if_neg (by simp)]
        dsimp only
        rw [decide_eq_true (show (cnt (paintS m l) : Int) > 0 by omega), Bool.true_and, e48 (by omega) (by omega)]
        by_cases hn : (mist m l o).1 = []
        · have hle := (paintS_least hol (hnil.1 hn) h6).2
          rw [hn]
          simp only [List.length_nil, Int.natCast_zero, cond_true]
          rw [show decide ((0 : Int) > 0) = false from rfl]
          simp only [Bool.not_false, optG_true, Option.bind_some, cond_false]
          rw [decide_eq_true (show ((cnt o : Nat) : Int) ≥ ((cnt (paintS m l) : Nat) : Int) by omega), optG_true, awake200]; rfl
        · rw [hpos hn]
          simp only [Bool.not_true, optG_false, Option.bind_some, cond_true, optG_true]
          rw [awake200]; rfl
    · rw [show ((chkLeg m l).2 == 0) = false from by simpa using h3, Bool.not_false, if_pos rfl, awake200]; rfl
  · rw [show ((chk m).2.2 == 0) = false from by simpa using h, Bool.not_false, if_pos rfl, awake200]; rfl
end Go.Proofs.Ytpkhbbboedoldaa
