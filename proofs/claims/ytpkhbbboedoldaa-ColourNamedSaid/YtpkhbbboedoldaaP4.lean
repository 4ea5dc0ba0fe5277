/- Sides of Mistaken have, in some truth, points in different bands with inks that are alike; other sides have none. -/
import Derived.Test.YtpkhbbboedoldaaPE
import Derived.Test.YtpkhbbboedoldaaPR
import Derived.Test.YtpkhbbboedoldaaPO
import Derived.Test.YtpkhbbboedoldaaDI
namespace Go.Proofs.Ytpkhbbboedoldaa
open Go Go.Sx
set_option linter.all false

def inS (s : Sp) (n : Int) : Bool := decide (s.Lo ≤ n) && decide (n ≤ s.Hi)
def steps (s : Sp) (l : List Int) : List Int := s.Lo :: l.filter (inS s)
theorem e78 {k : Nat} {s : Sp} {l : List Int} (hl : l.length ≤ 5) (hk : 10 ≤ k) : F78 k s l = some (steps s l) := by
  have key : ∀ (suf pre : List Int) (n : Nat) (c : Int) (acc : List Int), l = pre ++ suf → c = pre.length → suf.length < n → acc.length ≤ pre.length + 1 → F78L1 s l n (c, acc) = some (.inr (acc ++ suf.filter (inS s))) := by
    intro suf
    induction suf with
    | nil =>
      intro pre n c acc he hc hn ha
      obtain ⟨n, rfl⟩ : ∃ m, n = m + 1 := ⟨n - 1, by simp at hn; omega⟩
      rw [F78L1, if_neg (by rw [he]; simp; omega)]; simp
    | cons x suf ih =>
      intro pre n c acc he hc hn ha
      simp only [List.length_cons] at hn
      obtain ⟨n, rfl⟩ : ∃ m, n = m + 1 := ⟨n - 1, by omega⟩
      have hlen : l.length = pre.length + (suf.length + 1) := by rw [he]; simp
      have hix : idx l c = some x := by rw [he]; exact idx_mid hc
      rw [F78L1, if_pos (by simp; omega)]
      dsimp only
      rw [hix, Option.bind_some, e45, Option.bind_some, w64_id (by omega) (by omega), List.filter_cons]
      change (if inS s x = true then _ else _) = _
      cases inS s x with
      | true =>
        rw [if_pos rfl, if_pos rfl, Option.bind_some, need_true (by simp; omega), Option.bind_some, ih (pre ++ [x]) n (c + 1) _ (by simp [he]) (by simp; omega) (by omega) (by simp; omega), List.append_assoc]; rfl
      | false => rw [if_neg (by simp), if_neg (by simp), ih (pre ++ [x]) n (c + 1) _ (by simp [he]) (by simp; omega) (by omega) (by simp; omega)]
  unfold F78
  rw [key l [] k 0 [s.Lo] rfl rfl (by omega) (by simp), Option.bind_some, outK_inr]; rfl
theorem steps_len {s : Sp} {l : List Int} : (steps s l).length ≤ l.length + 1 := by
  have := List.length_filter_le (inS s) l
  simp [steps]; omega
theorem steps_band {s : Sp} {l : List Int} (hi : Inc l) (h : s.Lo ≤ s.Hi) {p : Nat} : (∃ x ∈ steps s l, band l x = p) ↔ band l s.Lo ≤ p ∧ p ≤ band l s.Hi := by
  constructor
  · rintro ⟨x, hx, rfl⟩
    have hb : s.Lo ≤ x ∧ x ≤ s.Hi := by
      rcases List.mem_cons.1 hx with h1 | h1
      · omega
      · have := (List.mem_filter.1 h1).2
        simpa [inS] using this
    exact ⟨band_mono l hb.1, band_mono l hb.2⟩
  · rintro ⟨h1, h2⟩
    by_cases he : p = band l s.Lo
    · exact ⟨s.Lo, by simp [steps], he.symm⟩
    · have hle := band_le l s.Hi
      have h3 : l[p - 1]! ≤ s.Hi := band_lt l s.Hi (p - 1) (by omega)
      have h4 : s.Lo < l[p - 1]! := by
        have := band_at l s.Lo (by omega)
        by_cases he2 : band l s.Lo = p - 1
        · rw [← he2]; exact this
        · have := hi (band l s.Lo) (p - 1) (by omega) (by omega); omega
      have hmem : l[p - 1]! ∈ l := by rw [getElem!_pos l (p - 1) (by omega)]; exact List.getElem_mem _
      refine ⟨l[p - 1]!, ?_, ?_⟩
      · rw [steps, List.mem_cons, List.mem_filter]
        refine .inr ⟨hmem, ?_⟩
        unfold inS
        rw [Bool.and_eq_true, decide_eq_true_eq, decide_eq_true_eq]; omega
      · refine band_is hi (by omega) (fun i hi' => ?_) (fun hlt => hi (p - 1) p (by omega) hlt)
        by_cases he2 : i = p - 1
        · rw [he2]; omega
        · have := hi i (p - 1) (by omega) (by omega); omega

def shownB (m : Mp) (l inks : List Int) (s : Pr) : Bool :=
  (steps m.Heights[s.A.toNat]! l).any fun x => (steps m.Heights[s.B.toNat]! l).any fun y => decide (band l x ≠ band l y) && likeB m inks[band l x]! inks[band l y]!
theorem e51 {k : Nat} (hk : 20 ≤ k) {m : Mp} (g : GoodM m) {l inks : List Int} (gl : GoodL m l) (hn : inks.length = l.length + 1) {s : Pr} (hs : s ∈ m.Sides) : F51 k m l inks s = some (shownB m l inks s) := by
  have hsid := g.sid s hs
  have hb1 := g.b1
  have hl1 := g.l1
  have hll := gl.len
  unfold F51 shownB
  rw [idx_bang hsid.1.1 hsid.1.2, Option.bind_some, e78 (by omega) (by omega), Option.bind_some, idx_bang hsid.2.1.1 hsid.2.1.2, Option.bind_some, e78 (by omega) (by omega), Option.bind_some]
  have hA := steps_len (s := m.Heights[s.A.toNat]!) (l := l)
  have hB := steps_len (s := m.Heights[s.B.toNat]!) (l := l)
  generalize steps m.Heights[s.A.toNat]! l = xs at hA ⊢
  generalize steps m.Heights[s.B.toNat]! l = ys at hB ⊢
  rw [any_loop (l := xs) (L := F51L1 k m l inks xs ys) (p := fun x => ys.any fun y => decide (band l x ≠ band l y) && likeB m inks[band l x]! inks[band l y]!) (r := true) (by omega)
    (fun n c h => by rw [F51L1, if_neg (by simpa using h)])
    (fun n c x hx h0 h1 hi => by
      have q1 := band_le l x
      rw [F51L1, if_pos (by simpa using h1), any_loop (l := ys) (L := F51L2 k m l inks xs ys c) (p := fun y => decide (band l x ≠ band l y) && likeB m inks[band l x]! inks[band l y]!) (r := true) (by omega)
        (fun n c h => by rw [F51L2, if_neg (by simpa using h)])
        (fun n d y hy h2 h3 hj => by
          have q2 := band_le l y
          rw [F51L2, if_pos (by simpa using h3), hi, Option.bind_some, e42 (gl.inc g) (by omega) (by omega), Option.bind_some, hj, Option.bind_some, e42 (gl.inc g) (by omega) (by omega), Option.bind_some]
          by_cases he : band l x = band l y
          · have e : (((band l x : Nat) : Int) != ((band l y : Nat) : Int)) = false := by rw [he]; simp
            rw [e, decide_eq_false (by omega)]
            simp [optG_false]
          · have e : (((band l x : Nat) : Int) != ((band l y : Nat) : Int)) = true := by
              rw [bne_iff_ne]; omega
            rw [e, decide_eq_true he]
            simp only [optG_true, cond_true, Bool.true_and]
            rw [idx_nat (by omega), Option.bind_some, idx_nat (by omega), Option.bind_some, e49 (by omega) (by omega), Option.bind_some]) ys [] k 0 rfl rfl (by omega), Option.bind_some]
      cases ys.any fun y => decide (band l x ≠ band l y) && likeB m inks[band l x]! inks[band l y]! <;> rfl) xs [] k 0 rfl rfl (by omega), Option.bind_some]
  cases xs.any fun x => ys.any fun y => decide (band l x ≠ band l y) && likeB m inks[band l x]! inks[band l y]! <;> rfl

theorem beside_bands {m : Mp} {l : List Int} {s : Pr} (hA : 0 ≤ s.A ∧ s.A < m.Heights.length) (hB : 0 ≤ s.B ∧ s.B < m.Heights.length) (p q : Nat) : besideB (alls m l) s p q = true ↔
    ((band l m.Heights[s.A.toNat]!.Lo ≤ p ∧ p ≤ band l m.Heights[s.A.toNat]!.Hi) ∧ band l m.Heights[s.B.toNat]!.Lo ≤ q ∧ q ≤ band l m.Heights[s.B.toNat]!.Hi) ∨ ((band l m.Heights[s.A.toNat]!.Lo ≤ q ∧ q ≤ band l m.Heights[s.A.toNat]!.Hi) ∧ band l m.Heights[s.B.toNat]!.Lo ≤ p ∧ p ≤ band l m.Heights[s.B.toNat]!.Hi) := by
  unfold besideB okN
  rw [alls_at hA.1 hA.2, alls_at hB.1 hB.2]
  simp only [Bool.or_eq_true, Bool.and_eq_true, decide_eq_true_eq]
  omega
theorem shown_wrong {m : Mp} (g : GoodM m) {l inks : List Int} (gl : GoodL m l) (hn : inks.length = l.length + 1) {s : Pr} (hs : s ∈ m.Sides) : shownB m l inks s = wrongB m l inks s := by
  have hsid := g.sid s hs
  have hA := hei_at g hsid.1.1 hsid.1.2
  have hB := hei_at g hsid.2.1.1 hsid.2.1.2
  rw [Bool.eq_iff_iff, wrongB_iff]
  unfold shownB
  rw [List.any_eq_true]
  constructor
  · rintro ⟨x, hx, h1⟩
    obtain ⟨y, hy, h2⟩ := List.any_eq_true.1 h1
    rw [Bool.and_eq_true, decide_eq_true_eq] at h2
    have hp := (steps_band (gl.inc g) hA.2.1).1 ⟨x, hx, rfl⟩
    have hq := (steps_band (gl.inc g) hB.2.1).1 ⟨y, hy, rfl⟩
    have q1 := band_le l x
    have q2 := band_le l y
    rcases Nat.lt_or_gt_of_ne h2.1 with h | h
    · exact ⟨band l y, band l x, h, by omega, by rw [likeB_comm]; exact h2.2, (beside_bands hsid.1 hsid.2.1 _ _).2 (.inr ⟨hp, hq⟩)⟩
    · exact ⟨band l x, band l y, h, by omega, h2.2, (beside_bands hsid.1 hsid.2.1 _ _).2 (.inl ⟨hp, hq⟩)⟩
  · rintro ⟨a, b, h1, h2, h3, h4⟩
    rcases (beside_bands hsid.1 hsid.2.1 _ _).1 h4 with ⟨hp, hq⟩ | ⟨hp, hq⟩
    · obtain ⟨x, hx, rfl⟩ := (steps_band (gl.inc g) hA.2.1).2 hp
      obtain ⟨y, hy, rfl⟩ := (steps_band (gl.inc g) hB.2.1).2 hq
      exact ⟨x, hx, List.any_eq_true.2 ⟨y, hy, by rw [Bool.and_eq_true, decide_eq_true_eq]; exact ⟨by omega, h3⟩⟩⟩
    · obtain ⟨x, hx, rfl⟩ := (steps_band (gl.inc g) hA.2.1).2 hp
      obtain ⟨y, hy, rfl⟩ := (steps_band (gl.inc g) hB.2.1).2 hq
      exact ⟨x, hx, List.any_eq_true.2 ⟨y, hy, by rw [Bool.and_eq_true, decide_eq_true_eq]; exact ⟨by omega, by rw [likeB_comm]; exact h3⟩⟩⟩

theorem e11L2 {k : Nat} (hk : 120 ≤ k) {m : Mp} (g : GoodM m) {l inks : List Int} (gl : GoodL m l) (hn : inks.length = l.length + 1) {e : Int} : ∀ (suf pre : List Pr) (n : Nat) (c : Int) (acc : Bool), metM m l (l.length + 1) 0 = pre ++ suf → c = pre.length → suf.length < n →
    F11L2 k m l inks (metM m l (l.length + 1) 0, e) n (acc, c) = some (.inr (acc || suf.any fun p => likeB m inks[p.A.toNat]! inks[p.B.toNat]!)) := by
  have hb1 := g.b1
  have hl1 := g.l1
  have hll := gl.len
  have hml := metM_len (m := m) (l := l) (by omega) (l.length + 1) 0
  have hmem : ∀ p ∈ metM m l (l.length + 1) 0, 0 ≤ p.A ∧ p.A < p.B ∧ p.B ≤ l.length := fun p hp => by
    have := (mem_metM (p := p) (l.length + 1) 0 (by omega) (by omega)).1 hp
    omega
  generalize metM m l (l.length + 1) 0 = ps at hml hmem
  intro suf
  induction suf with
  | nil =>
    intro pre n c acc hl hc hn
    obtain ⟨n, rfl⟩ : ∃ m, n = m + 1 := ⟨n - 1, by simp at hn; omega⟩
    rw [F11L2, if_neg (by dsimp only; rw [hl]; simp; omega)]; simp
  | cons s suf ih =>
    intro pre n c acc hl hc hn
    simp only [List.length_cons] at hn
    obtain ⟨n, rfl⟩ : ∃ m, n = m + 1 := ⟨n - 1, by omega⟩
    have hlen : ps.length = pre.length + (suf.length + 1) := by rw [hl]; simp
    have hix : idx ps c = some s := by rw [hl]; exact idx_mid hc
    have hs := hmem s (by rw [hl]; simp)
    rw [F11L2, if_pos (by simp; omega)]
    dsimp only
    rw [hix, Option.bind_some, decide_eq_false (show ¬ s.A < 0 by omega), Bool.not_false, optG_true, Option.bind_some, Option.bind_some, decide_eq_false (show ¬ s.A ≥ s.B by omega), cond_false, Bool.not_false, optG_true, Option.bind_some, decide_eq_false (show ¬ s.B > (l.length : Int) by omega), cond_false, if_neg (by simp), w64_id (by omega) (by omega)]
    cases acc with
    | true =>
      simp only [Bool.not_true, optG_false, Option.bind_some, cond_true]
      rw [ih (pre ++ [s]) n (c + 1) true (by simp [hl]) (by simp; omega) (by omega)]; simp
    | false =>
      simp only [Bool.not_false, optG_true, Option.bind_some, cond_false]
      rw [idx_bang (by omega) (by omega), Option.bind_some, idx_bang (by omega) (by omega), Option.bind_some, e49 (by omega) (by omega), Option.bind_some, ih (pre ++ [s]) n (c + 1) _ (by simp [hl]) (by simp; omega) (by omega), List.any_cons, Bool.false_or]

theorem law11 (m : Mp) (px : S_hachurelaw09qPast) (y : List Int) (hl : Tn px.Legend) (ht : Tn px.Truth) (hy : Tn y) : F11 200 m px y = some true := by
  unfold F11
  rw [e39 (by omega), Option.bind_some]
  by_cases h : (chk m).2.2 = 0
  · have g := chk_good.1 h
    have hb1 := g.b1
    have hs1 := g.s1
    have hl1 := g.l1
    rw [show ((chk m).2.2 == 0) = true from by simpa using h, Bool.not_true, if_neg (by simp)]
    obtain ⟨l, h1, h2⟩ := e40 (k := 200) (by omega) g hl
    rw [h1, Option.bind_some, e41 (by omega), Option.bind_some]
    by_cases h3 : (chkLeg m l).2 = 0
    · obtain ⟨_, gl⟩ := chkLeg_good.1 h3
      rw [show ((chkLeg m l).2 == 0) = true from by simpa using h3, Bool.not_true, if_neg (by simp)]
      obtain ⟨o, h4, h5, h6⟩ := e50 (k := 200) (by omega) g hy
      have hol : o.length = l.length + 1 := by omega
      have hE : inksE m l o = 0 := inksE_good.2 ⟨g, gl, hol, h6⟩
      have hnil := mist_nil hE
      have hms : mist m l o = (wrongs (wrongB m l o) m.Sides 0, 0) := by unfold mist; rw [if_pos hE]
      have hmt : mets m l = (metM m l (l.length + 1) 0, 0) := by unfold mets; rw [if_pos h3]
      have hwl := wrongs_len (wrongB m l o) m.Sides 0
      have hml := metM_len (m := m) (l := l) (by omega) (l.length + 1) 0
      rw [hms] at hnil
      dsimp only at hnil
      rw [h4, Option.bind_some, e33 (by omega), Option.bind_some, e27 (by omega), Option.bind_some, hms, hmt, if_neg (by simp)]
      have kf2 : ∀ y : List Pr, (y.any fun _ => false) = false := by intro y; rw [List.any_eq_false]; simp
      have k2 := any_loop (l := m.Sides) (L := F11L1 200 m px l o (wrongs (wrongB m l o) m.Sides 0, 0)) (p := fun _ => false) (r := false) (by omega)
        (fun n c h => by rw [F11L1, if_neg (by simpa using h)])
        (fun n c s hs h0 h1 hi => by
          have hsid := g.sid s hs
          have hA := hei_at g hsid.1.1 hsid.1.2
          have hB := hei_at g hsid.2.1.1 hsid.2.1.2
          obtain ⟨t, ht1, ht2, _⟩ := e44 ht hsid.1.1
          obtain ⟨u, hu1, hu2, _⟩ := e44 ht hsid.2.1.1
          obtain ⟨v, hv1, hv2⟩ := e43 hA.1 hA.2.1 hA.2.2 ht2
          obtain ⟨w, hw1, hw2⟩ := e43 hB.1 hB.2.1 hB.2.2 hu2
          have q1 := band_le l v
          have q2 := band_le l w
          have r1 := band_mono l hv2.1
          have r2 := band_mono l hv2.2
          have r3 := band_mono l hw2.1
          have r4 := band_mono l hw2.2
          have hcs : m.Sides[c.toNat]! = s := by
            rw [idx_bang h0 h1] at hi; exact Option.some.inj hi
          have hcon : (wrongs (wrongB m l o) m.Sides 0).contains c = wrongB m l o s := by
            rw [Bool.eq_iff_iff, List.contains_iff_mem, mem_wrongs]
            constructor
            · rintro ⟨j, j1, j2, j3⟩
              have : j = c.toNat := by omega
              rw [this, hcs] at j3; exact j3
            · intro hw
              exact ⟨c.toNat, by omega, by omega, by rw [hcs]; exact hw⟩
          rw [F11L1, if_pos (by simpa using h1)]
          dsimp only
          rw [hi, Option.bind_some, idx_bang hsid.1.1 hsid.1.2, Option.bind_some, ht1, Option.bind_some, hv1, Option.bind_some, e42 (gl.inc g) (by omega) (by omega), Option.bind_some, idx_bang hsid.2.1.1 hsid.2.1.2, Option.bind_some, hu1, Option.bind_some, hw1, Option.bind_some,
            e42 (gl.inc g) (by omega) (by omega), Option.bind_some, e46 (by omega) (by omega), Option.bind_some, hcon]
          have hfin : ((F51 200 m l o s).bind fun x30 => if (!(wrongB m l o s == x30)) = true then (some (.inl false) : Option (Bool ⊕ Unit)) else F11L1 200 m px l o (wrongs (wrongB m l o) m.Sides 0, 0) n (w64 (c + 1))) = F11L1 200 m px l o (wrongs (wrongB m l o) m.Sides 0, 0) n (w64 (c + 1)) := by
            rw [e51 (by omega) g gl hol hs, Option.bind_some, shown_wrong g gl hol hs, beq_self_eq_true, Bool.not_true, if_neg (by simp)]
          rw [hfin]
          cases hw : wrongB m l o s with
          | true => simp [optG_false]
          | false =>
            by_cases hab : band l v = band l w
            · have e : (((band l v : Nat) : Int) != ((band l w : Nat) : Int)) = false := by rw [hab]; simp
              rw [e]
              simp [optG_false]
            · have e : (((band l v : Nat) : Int) != ((band l w : Nat) : Int)) = true := by
                rw [bne_iff_ne]; omega
              have hlike : likeB m o[band l v]! o[band l w]! = false := by
                rw [← Bool.not_eq_true]
                intro hlk
                rw [← Bool.not_eq_true, wrongB_iff] at hw
                rcases Nat.lt_or_gt_of_ne hab with h | h
                · exact hw ⟨band l w, band l v, h, by omega, by rw [likeB_comm]; exact hlk, (beside_bands hsid.1 hsid.2.1 _ _).2 (.inr (by omega))⟩
                · exact hw ⟨band l v, band l w, h, by omega, hlk, (beside_bands hsid.1 hsid.2.1 _ _).2 (.inl (by omega))⟩
              rw [e]
              simp only [Bool.not_false, cond_true, optG_true]
              rw [idx_nat (by omega), Option.bind_some, idx_nat (by omega), Option.bind_some, e49 (by omega) (by omega), Option.bind_some, hlike]) m.Sides [] 200 0 rfl rfl (by omega)
      rw [k2, kf2, if_neg (by simp), Option.bind_some, outK_inr, e11L2 (by omega) g gl hol (metM m l (l.length + 1) 0) [] 200 0 false rfl rfl (by omega), Option.bind_some, outK_inr, Bool.false_or]
      have hany : ((metM m l (l.length + 1) 0).any fun p => likeB m o[p.A.toNat]! o[p.B.toNat]!) = !pnt m l o := by
        unfold pnt
        rw [Bool.not_not, Bool.eq_iff_iff, List.any_eq_true, List.any_eq_true]
        refine exists_congr fun p => and_congr_right fun hp => ?_
        have := (mem_metM (p := p) (l.length + 1) 0 (by omega) (by omega)).1 hp
        rw [Bool.and_eq_true, decide_eq_true_eq]
        exact ⟨fun h => ⟨by omega, h⟩, fun h => h.2⟩
      have hlen : decide (((wrongs (wrongB m l o) m.Sides 0).length : Int) > 0) = !pnt m l o := by
        cases hp : pnt m l o with
        | true => rw [hnil.2 hp]; rfl
        | false =>
          have hne : wrongs (wrongB m l o) m.Sides 0 ≠ [] := fun h => by rw [hnil.1 h] at hp; cases hp
          have := List.length_pos_iff.2 hne
          exact decide_eq_true (by omega)
      dsimp only
      rw [hany, hlen, beq_self_eq_true, optG_true, awake200]; rfl
    · rw [show ((chkLeg m l).2 == 0) = false from by simpa using h3, Bool.not_false, if_pos rfl, awake200]; rfl
  · rw [show ((chk m).2.2 == 0) = false from by simpa using h, Bool.not_false, if_pos rfl, awake200]; rfl
end Go.Proofs.Ytpkhbbboedoldaa
