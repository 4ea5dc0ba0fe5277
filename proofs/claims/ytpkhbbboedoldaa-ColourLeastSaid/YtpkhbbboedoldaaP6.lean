/- The legend of Best leaves as many points unsure as it says; no legend leaves fewer. -/
import Derived.Test.YtpkhbbboedoldaaP5
import Derived.Test.YtpkhbbboedoldaaPV
import Derived.Test.YtpkhbbboedoldaaPA
import Derived.Test.YtpkhbbboedoldaaPY
import Derived.Test.YtpkhbbboedoldaaDN
namespace Go.Proofs.Ytpkhbbboedoldaa
open Go Go.Sx
set_option linter.all false

theorem unsure_good {m : Mp} {l : List Int} (g : GoodM m) (gl : GoodL m l) : unsure m l = (doubt (alls m l) 0, 0) := by
  unfold unsure; rw [if_pos (chkLeg_good.2 ⟨g, gl⟩)]
theorem law12 (m : Mp) (x : List Int) (hx : Tn x) : F12 200 m x = some true := by
  unfold F12
  rw [e35 (by omega), Option.bind_some, e39 (by omega), Option.bind_some]
  by_cases h : (chk m).2.2 = 0
  · have g := chk_good.1 h
    rw [show ((chk m).2.2 == 0) = true from by simpa using h, Bool.not_true, if_neg (by simp)]
    obtain ⟨l, h1, h2⟩ := e40 (k := 200) (by omega) g hx
    rw [h1, Option.bind_some, best, if_pos h]
    cases ho : opt m.Step m.Heights m.Borders none with
    | none =>
      have hbad : (chkLeg m l).2 ≠ 0 := by
        intro h3
        obtain ⟨y, hy, _⟩ := opt_min (hs := m.Heights) (goodL_leg.1 (chkLeg_good.1 h3).2)
        rw [ho] at hy; cases hy
      have hb : ((chkLeg m l).2 == 0) = false := by simpa using hbad
      rw [if_pos (by rfl)]
      dsimp only
      rw [show ((9 : Int) == 9) = true from rfl]
      simp only [cond_true, List.length_nil, Int.natCast_zero, beq_self_eq_true, optG_true]
      rw [e41 (by omega), Option.bind_some, hb, Bool.not_false, optG_true, awake200]; rfl
    | some y =>
      obtain ⟨r, c⟩ := y
      obtain ⟨hr, hc⟩ := opt_some ho
      have gr := goodL_leg.2 hr
      have hcost := unsure_cost g gr
      dsimp only at hc hr gr hcost
      have hrz : ((chkLeg m r).2 == 0) = true := by simpa using chkLeg_good.2 ⟨g, gr⟩
      rw [if_neg (by simp)]
      dsimp only
      rw [e24 (by omega), Option.bind_some, e24 (by omega), Option.bind_some, e41 (by omega), Option.bind_some, hrz, unsure_good g gr]
      dsimp only
      rw [hcost, hc]
      simp only [beq_self_eq_true, cond_true, optG_true]
      rw [e41 (by omega), Option.bind_some]
      by_cases h3 : (chkLeg m l).2 = 0
      · obtain ⟨_, gl⟩ := chkLeg_good.1 h3
        have hcl := unsure_cost g gl
        obtain ⟨z, hz, hle⟩ := opt_min (hs := m.Heights) (goodL_leg.1 gl)
        rw [ho] at hz
        have hz := Option.some.inj hz
        rw [← hz] at hle
        dsimp only at hle
        rw [unsure_good g gl, show ((chkLeg m l).2 == 0) = true from by simpa using h3]
        dsimp only
        rw [hcl, decide_eq_true (show cost m.Heights none l ≥ cost m.Heights none r by omega)]
        simp only [bne_self_eq_false, beq_self_eq_true, cond_true, cond_false, optG_true]
        rw [awake200]; rfl
      · have e1 : unsure m l = ([], (chkLeg m l).2) := by unfold unsure; rw [if_neg h3]
        have e2 : ((chkLeg m l).2 == 0) = false := by simpa using h3
        have e3 : ((chkLeg m l).2 != 0) = true := by simpa using h3
        rw [e1]
        dsimp only
        rw [e2, e3]
        simp only [beq_self_eq_true, cond_true, optG_true]
        rw [awake200]; rfl
  · have e1 : ((chk m).2.2 != 0) = true := by simpa using h
    rw [show ((chk m).2.2 == 0) = false from by simpa using h, Bool.not_false, if_pos rfl, best, if_neg h]
    dsimp only
    rw [e1]
    simp only [cond_true, List.length_nil, Int.natCast_zero, beq_self_eq_true, optG_true]
    rw [awake200]; rfl
end Go.Proofs.Ytpkhbbboedoldaa
