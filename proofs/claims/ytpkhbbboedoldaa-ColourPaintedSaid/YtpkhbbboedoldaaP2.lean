/- With the inks of Paint, in any truth, two points beside each other have inks that are alike just if they are in the same band. -/
import Derived.Test.YtpkhbbboedoldaaP1
import Derived.Test.YtpkhbbboedoldaaPR
import Derived.Test.YtpkhbbboedoldaaPY
import Derived.Test.YtpkhbbboedoldaaDV
namespace Go.Proofs.Ytpkhbbboedoldaa
open Go Go.Sx
set_option linter.all false

/-- The bands of two points beside each other, by any truth. -/
theorem side_bands {m : Mp} (g : GoodM m) {l : List Int} (gl : GoodL m l) {s : Pr} (hs : s ∈ m.Sides) {v w : Int} (hv : m.Heights[s.A.toNat]!.Lo ≤ v ∧ v ≤ m.Heights[s.A.toNat]!.Hi) (hw : m.Heights[s.B.toNat]!.Lo ≤ w ∧ w ≤ m.Heights[s.B.toNat]!.Hi) :
    metB m l (band l v) (band l w) = true := by
  have hsid := g.sid s hs
  have hA := alls_at (m := m) (l := l) hsid.1.1 hsid.1.2
  have hB := alls_at (m := m) (l := l) hsid.2.1.1 hsid.2.1.2
  have q1 := band_mono l hv.1
  have q2 := band_mono l hv.2
  have q3 := band_mono l hw.1
  have q4 := band_mono l hw.2
  unfold metB
  rw [List.any_eq_true]
  refine ⟨s, hs, ?_⟩
  unfold besideB okN
  rw [hA, hB]
  simp only [Bool.or_eq_true, Bool.and_eq_true, decide_eq_true_eq]
  exact .inl ⟨⟨by omega, by omega⟩, by omega, by omega⟩
theorem pnt_like {m : Mp} {l x : List Int} (hp : pnt m l x = true) (hx : x.length = l.length + 1) {a b : Nat} (ha : a ≤ l.length) (hb : b ≤ l.length) (hm : metB m l a b = true) : likeB m x[a]! x[b]! = ((a : Int) == (b : Int)) := by
  rw [pnt_iff] at hp
  by_cases he : a = b
  · subst he; simp [likeB]
  · have e : ((a : Int) == (b : Int)) = false := beq_eq_false_iff_ne.2 (by omega)
    rw [e]
    rcases Nat.lt_or_gt_of_ne he with h | h
    · exact hp a b h hb hm (by omega)
    · rw [likeB_comm]; exact hp b a h ha (by rw [metB_comm]; exact hm) (by omega)

theorem law9 (m : Mp) (px : S_hachurelaw09qPast) (hl : Tn px.Legend) (ht : Tn px.Truth) : F9 200 m px = some true := by
  unfold F9
  rw [e39 (by omega), Option.bind_some]
  by_cases h : (chk m).2.2 = 0
  · have g := chk_good.1 h
    have hb1 := g.b1
    have hs1 := g.s1
    have hl1 := g.l1
    rw [show ((chk m).2.2 == 0) = true from by simpa using h, Bool.not_true, if_neg (by simp)]
    obtain ⟨l, h1, h2⟩ := e40 (k := 200) (by omega) g hl
    rw [h1, Option.bind_some, e31 (by omega), Option.bind_some, e41 (by omega), Option.bind_some]
    by_cases h3 : (chkLeg m l).2 = 0
    · obtain ⟨_, gl⟩ := chkLeg_good.1 h3
      have e0 : ((chkLeg m l).2 == 0) = true := by simpa using h3
      rw [e0]
      rcases paintS_sound m l with hp | ⟨hp, hb, hlen⟩
      · have e1 : paints m l = ([], 0, 9) := by unfold paints; rw [if_pos h3, if_pos hp]
        rw [e1, if_pos (by rfl)]
        simp only [Option.bind_some, Bool.not_true, cond_false, Bool.not_false, optG_true, cond_true]
        rw [show (((9 : Int) == 9)) = true from rfl]
        simp only [cond_true, List.length_nil, Int.natCast_zero, beq_self_eq_true, optG_true]
        rw [awake200]; rfl
      · have hne : paintS m l ≠ [] := by intro h; rw [h] at hlen; simp at hlen
        have e1 : paints m l = (paintS m l, (cnt (paintS m l) : Int), 0) := by unfold paints; rw [if_pos h3, if_neg hne]
        rw [e1]
        generalize paintS m l = x at hp hb hlen hne
        rw [if_neg (by simp)]
        dsimp only
        rw [w64_id (n := (l.length : Int) + 1) (by omega) (by omega), show ((x.length : Int) != (l.length : Int) + 1) = false from by rw [bne_eq_false_iff_eq]; omega, Bool.not_false, optG_true, e48 (by omega) (by omega), Option.bind_some, if_neg (by simp)]
        have k1 := any_loop (l := x) (L := F9L1 m (x, (cnt x : Int), 0)) (p := fun _ => false) (r := false) (by omega)
          (fun n c h => by rw [F9L1, if_neg (by simpa using h)])
          (fun n c s hs h0 h1 hi => by
            have := hb s hs
            rw [F9L1, if_pos (by simpa using h1)]
            dsimp only
            rw [hi, Option.bind_some, decide_eq_false (by omega), Bool.not_false, optG_true, Option.bind_some, decide_eq_false (by omega), cond_false]) x [] 200 0 rfl rfl (by omega)
        have kf : ∀ y : List Int, (y.any fun _ => false) = false := by intro y; rw [List.any_eq_false]; simp
        rw [k1, kf, if_neg (by simp), Option.bind_some, outK_inr]
        have k2 := any_loop (l := m.Sides) (L := F9L2 200 m px l (x, (cnt x : Int), 0)) (p := fun _ => false) (r := false) (by omega)
          (fun n c h => by rw [F9L2, if_neg (by simpa using h)])
          (fun n c s hs h0 h1 hi => by
            have hsid := g.sid s hs
            have hA := hei_at g hsid.1.1 hsid.1.2
            have hB := hei_at g hsid.2.1.1 hsid.2.1.2
            obtain ⟨t, ht1, ht2, _⟩ := e44 ht hsid.1.1
            obtain ⟨u, hu1, hu2, _⟩ := e44 ht hsid.2.1.1
            obtain ⟨v, hv1, hv2⟩ := e43 hA.1 hA.2.1 hA.2.2 ht2
            obtain ⟨w, hw1, hw2⟩ := e43 hB.1 hB.2.1 hB.2.2 hu2
            have q1 := band_le l v
            have q2 := band_le l w
            have hmet := side_bands g gl hs hv2 hw2
            rw [F9L2, if_pos (by simpa using h1)]
            dsimp only
            rw [hi, Option.bind_some, idx_bang hsid.1.1 hsid.1.2, Option.bind_some, Option.bind_some, ht1, Option.bind_some, hv1, Option.bind_some, e42 (gl.inc g) (by omega) (by omega), Option.bind_some, Option.bind_some, idx_bang hsid.2.1.1 hsid.2.1.2, Option.bind_some, Option.bind_some, hu1, Option.bind_some, hw1, Option.bind_some,
              e42 (gl.inc g) (by omega) (by omega), Option.bind_some, idx_nat (by omega), Option.bind_some, idx_nat (by omega), Option.bind_some, e49 (by omega) (by omega), Option.bind_some, pnt_like hp hlen q1 q2 hmet, beq_self_eq_true, Bool.not_true]) m.Sides [] 200 0 rfl rfl (by omega)
        have kf2 : ∀ y : List Pr, (y.any fun _ => false) = false := by intro y; rw [List.any_eq_false]; simp
        rw [k2, kf2, if_neg (by simp), Option.bind_some, outK_inr, e33 (by omega), Option.bind_some]
        have hE : inksE m l x = 0 := inksE_good.2 ⟨g, gl, hlen, hb⟩
        have hm0 : mist m l x = ([], 0) := by
          have h5 := (mist_nil hE).2 hp
          unfold mist at h5 ⊢
          rw [if_pos hE] at h5 ⊢
          exact Prod.ext h5 rfl
        rw [hm0]
        dsimp only
        simp only [beq_self_eq_true, cond_true, List.length_nil, Int.natCast_zero, optG_true]
        rw [awake200]; rfl
    · have e0 : ((chkLeg m l).2 == 0) = false := by simpa using h3
      have e1 : paints m l = ([], 0, (chkLeg m l).2) := by unfold paints; rw [if_neg h3]
      have e2 : ((chkLeg m l).2 != 0) = true := by simpa using h3
      rw [e0, e1, Bool.not_false, if_pos (by rfl)]
      dsimp only
      simp only [Option.bind_some, e2, cond_true, Bool.not_true, optG_false, List.length_nil, Int.natCast_zero, beq_self_eq_true, optG_true]
      rw [awake200]; rfl
  · rw [show ((chk m).2.2 == 0) = false from by simpa using h, Bool.not_false, if_pos rfl, awake200]; rfl
end Go.Proofs.Ytpkhbbboedoldaa
