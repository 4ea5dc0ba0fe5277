/- Good surfaces; the statements CarvePrevents, CarveLeast and CarveSteeper in plain words. -/
import Derived.Test.YtadejgckgnbaoaaPN
import Derived.Test.YtadejgckgnbaoaaDL
import Derived.Test.YtadejgckgnbaoaaDPR
import Derived.Test.YtadejgckgnbaoaaDST
namespace Go.Proofs.Ytadejgckgnbaoaa
open Go Go.Sx
set_option linter.all false

theorem e40 {k : Nat} (hk : 20 ≤ k) (r : R) : ∃ b, F40 k r = some b ∧ (b = true ↔ Good r) := by
  unfold F40
  rw [e17 hk, Option.bind_some]
  refine ⟨_, rfl, ?_⟩
  rcases chk_spec r with ⟨h1, h2⟩ | ⟨h1, h2⟩
  · rw [h1]; simp [h2]
  · simp [h1, h2]
/-- A good surface. -/
structure Fine (r : R) (s : List Int) : Prop where
  len : s.length = r.Points.length
  bnd : ∀ i, i < r.Points.length → r.Points[i]!.Lo ≤ s[i]! ∧ s[i]! ≤ r.Points[i]!.Hi
  step : ∀ i, i + 1 < r.Points.length → s[i]! - r.Steep ≤ s[i + 1]! ∧ s[i + 1]! ≤ s[i]! + r.Steep
theorem Fine.goodS {r : R} {s : List Int} (hg : Good r) (h : Fine r s) : GoodS r s := by
  refine ⟨hg, h.len, fun i hi => ?_⟩
  have hi' : i < r.Points.length := by have := h.len; omega
  have h1 := h.bnd i hi'
  have h2 := hg.pt r.Points[i]! (by rw [getElem!_pos r.Points i hi']; exact List.getElem_mem _)
  omega
theorem firstW_none {r : R} {s : List Int} : ∀ (m i : Nat), firstW r s m i = none ↔ ∀ j, i ≤ j → j < i + m → whyAt r s j = 0 := by
  intro m
  induction m with
  | zero => intro i; simp [firstW]; omega
  | succ m ih =>
    intro i
    rw [firstW]
    by_cases h : whyAt r s i = 0
    · rw [if_neg (by simpa using h), ih]
      constructor
      · intro h' j h1 h2
        by_cases e : j = i
        · rw [e]; exact h
        · exact h' j (by omega) (by omega)
      · intro h' j h1 h2; exact h' j (by omega) (by omega)
    · rw [if_pos h]
      exact ⟨fun h => (by cases h), fun h' => absurd (h' i (Nat.le_refl _) (by omega)) h⟩
theorem firstW_some {r : R} {s : List Int} : ∀ (m i j : Nat) (w : Int), firstW r s m i = some (j, w) → w ≠ 0 := by
  intro m
  induction m with
  | zero => intro i j w h; cases h
  | succ m ih =>
    intro i j w h
    rw [firstW] at h
    by_cases h' : whyAt r s i = 0
    · rw [if_neg (by simpa using h')] at h; exact ih _ _ _ h
    · rw [if_pos h'] at h; cases h; exact h'
theorem whyAt_zero {r : R} {s : List Int} {i : Nat} : whyAt r s i = 0 ↔ (r.Points[i]!.Lo ≤ s[i]! ∧ s[i]! ≤ r.Points[i]!.Hi) ∧ (0 < i → s[i]! - r.Steep ≤ s[i - 1]! ∧ s[i - 1]! ≤ s[i]! + r.Steep) := by
  unfold whyAt
  by_cases h1 : s[i]! < r.Points[i]!.Lo
  · rw [if_pos h1]; exact ⟨fun h => by omega, fun h => by omega⟩
  · rw [if_neg h1]
    by_cases h2 : s[i]! > r.Points[i]!.Hi
    · rw [if_pos h2]; exact ⟨fun h => by omega, fun h => by omega⟩
    · rw [if_neg h2]
      by_cases h3 : 0 < i ∧ ¬ (s[i]! - r.Steep ≤ s[i - 1]! ∧ s[i - 1]! ≤ s[i]! + r.Steep)
      · rw [if_pos h3]; exact ⟨fun h => by omega, fun h => absurd (h.2 h3.1) h3.2⟩
      · rw [if_neg h3]; exact ⟨fun _ => ⟨by omega, fun h => by omega⟩, fun _ => rfl⟩
theorem first_zero {r : R} {s : List Int} (hl : s.length = r.Points.length) : (first r s).2 = 0 ↔ Fine r s := by
  unfold first
  cases hf : firstW r s s.length 0 with
  | none =>
    rw [firstW_none] at hf
    refine ⟨fun _ => ⟨hl, fun i hi => (whyAt_zero.1 (hf i (Nat.zero_le _) (by omega))).1, fun i hi => ?_⟩, fun _ => rfl⟩
    have := (whyAt_zero.1 (hf (i + 1) (Nat.zero_le _) (by omega))).2 (by omega)
    rw [Nat.add_sub_cancel] at this
    omega
  | some q =>
    have hw := firstW_some _ _ _ _ hf
    refine ⟨fun h => absurd h hw, fun h => ?_⟩
    have : firstW r s s.length 0 = none := by
      rw [firstW_none]
      intro j _ hj
      rw [whyAt_zero]
      refine ⟨h.bnd j (by omega), fun h0 => ?_⟩
      have := h.step (j - 1) (by omega)
      rw [show j - 1 + 1 = j by omega] at this
      omega
    rw [this] at hf; cases hf
theorem e42 {k : Nat} (hk : 20 ≤ k) {r : R} {s : List Int} (h : GoodS r s) : ∃ b, F42 k r s = some b ∧ (b = true ↔ Fine r s) := by
  unfold F42
  rw [e61 hk h, Option.bind_some, e60 hk, Option.bind_some, surf_good h]
  refine ⟨_, rfl, ?_⟩
  simp only [beq_self_eq_true, cond_true, beq_iff_eq]
  exact first_zero h.len
theorem fine_far {r : R} (h0 : 0 ≤ r.Steep) {s : List Int} (h : Fine r s) : ∀ a b, a < r.Points.length → b < r.Points.length → s[a]! ≤ s[b]! + far r.Steep a b := by
  have key : ∀ (d a : Nat), a + d < r.Points.length → s[a]! ≤ s[a + d]! + far r.Steep a (a + d) ∧ s[a + d]! ≤ s[a]! + far r.Steep a (a + d) := by
    intro d
    induction d with
    | zero => intro a ha; simp only [Nat.add_zero, far_self]; omega
    | succ d ih =>
      intro a ha
      have h1 := ih a (by omega)
      have h2 := h.step (a + d) (by omega)
      have h3 := far_succ r.Steep (a + d) a (by omega)
      rw [far_symm r.Steep (a + d) a, far_symm r.Steep (a + d + 1) a] at h3
      rw [show a + (d + 1) = a + d + 1 by omega]
      omega
  intro a b ha hb
  by_cases e : a ≤ b
  · have := key (b - a) a (by omega)
    rw [show a + (b - a) = b by omega] at this
    omega
  · have := key (a - b) b (by omega)
    rw [show b + (a - b) = a by omega, far_symm r.Steep b a] at this
    omega
theorem Fine.some {r : R} (h0 : 0 ≤ r.Steep) {s : List Int} (h : Fine r s) : Some' r.Steep r.Points := by
  intro a b ha hb
  have h1 := fine_far h0 h a b ha hb
  have h2 := h.bnd a ha
  have h3 := h.bnd b hb
  omega

theorem cons_get {α : Type} [Inhabited α] (x : α) (l : List α) (i : Nat) : (x :: l)[i + 1]! = l[i]! := by simp [getElem!_def]
theorem cons_get0 {α : Type} [Inhabited α] (x : α) (l : List α) : (x :: l)[0]! = x := by simp [getElem!_def]
theorem fit_iff {S : Int} : ∀ (ps : List P) (s : List Int) (lo hi : Int), Fit S ps lo hi s ↔ s.length = ps.length ∧ (∀ i, i < ps.length → ps[i]!.Lo ≤ s[i]! ∧ s[i]! ≤ ps[i]!.Hi) ∧ (∀ i, i + 1 < ps.length → s[i]! - S ≤ s[i + 1]! ∧ s[i + 1]! ≤ s[i]! + S) ∧ (0 < ps.length → lo ≤ s[0]! ∧ s[0]! ≤ hi) := by
  intro ps
  induction ps with
  | nil =>
    intro s lo hi
    constructor
    · intro h; cases h; exact ⟨rfl, fun i h => by simp at h, fun i h => by simp at h, fun h => by simp at h⟩
    · intro h; exact List.length_eq_zero_iff.1 h.1
  | cons p ps ih =>
    intro s lo hi
    constructor
    · rintro ⟨x, t, rfl, h1, h2, h3, h4, h5⟩
      obtain ⟨g1, g2, g3, g4⟩ := (ih _ _ _).1 h5
      refine ⟨by simp [g1], fun i hi => ?_, fun i hi => ?_, fun _ => by rw [cons_get0]; exact ⟨h3, h4⟩⟩
      · cases i with
        | zero => rw [cons_get0, cons_get0]; exact ⟨h1, h2⟩
        | succ i => rw [cons_get, cons_get]; exact g2 i (by simpa using hi)
      · cases i with
        | zero => rw [cons_get, cons_get0]; exact g4 (by simpa using hi)
        | succ i => rw [cons_get, cons_get]; exact g3 i (by simpa using hi)
    · rintro ⟨g1, g2, g3, g4⟩
      cases s with
      | nil => simp at g1
      | cons x t =>
        have a := g2 0 (by simp)
        have b := g4 (by simp)
        rw [cons_get0, cons_get0] at a
        rw [cons_get0] at b
        refine ⟨x, t, rfl, a.1, a.2, b.1, b.2, (ih _ _ _).2 ⟨by simpa using g1, fun i hi => ?_, fun i hi => ?_, fun hi => ?_⟩⟩
        · have := g2 (i + 1) (by simpa using hi); rwa [cons_get, cons_get] at this
        · have := g3 (i + 1) (by simpa using hi); rwa [cons_get, cons_get] at this
        · have := g3 0 (by simpa using hi); rwa [cons_get, cons_get0] at this
theorem fit_fine {r : R} (hg : Good r) {s : List Int} : Fit r.Steep r.Points 0 9000 s ↔ Fine r s := by
  rw [fit_iff]
  refine ⟨fun h => ⟨h.1, h.2.1, h.2.2.1⟩, fun h => ⟨h.len, h.bnd, h.step, fun h0 => ?_⟩⟩
  have := (h.goodS hg).hgt 0 (by have := h.len; omega)
  exact this
theorem cost_eq : ∀ (ps : List P) (s : List Int) (e : Int), cost ps e s = (fills ps s, manyL e (depths ps s)) := by
  intro ps
  induction ps with
  | nil => intro s e; cases s <;> rfl
  | cons p ps ih =>
    intro s e
    cases s with
    | nil => rfl
    | cons x s => rw [cost, ih, fills, depths, manyL, cst]; simp only [Prod.mk.injEq]; omega

/-- What is taken by turns is from 0 to 255. -/
theorem e71 {x : List Int} (hx : ∀ n ∈ x, 0 ≤ n ∧ n ≤ 255) (hl : x.length < 2 ^ 63) (i : Nat) : ∃ t, F71 x i = some t ∧ 0 ≤ t ∧ t ≤ 255 := by
  unfold F71
  by_cases h : x.length = 0
  · rw [if_pos (by simp [h])]; exact ⟨0, rfl, by omega, by omega⟩
  · rw [if_neg (by simpa using h), need_true (by omega), Option.bind_some, Int.tmod_eq_emod_of_nonneg (by omega)]
    have h1 := Int.emod_nonneg (i : Int) (show (x.length : Int) ≠ 0 by omega)
    have h2 := Int.emod_lt_of_pos (i : Int) (show 0 < (x.length : Int) by omega)
    rw [idx_bang h1 h2, Option.bind_some]
    have hm := hx x[((i : Int) % (x.length : Int)).toNat]! (by rw [getElem!_pos x _ (by omega)]; exact List.getElem_mem _)
    refine ⟨_, rfl, ?_⟩
    rw [show IntKind.i64.wrap x[((i : Int) % (x.length : Int)).toNat]! = w64 x[((i : Int) % (x.length : Int)).toNat]! from rfl, w64_id (by omega) (by omega)]
    exact hm
theorem tmod_room {a b : Int} (ha : 0 ≤ a) (hb : 0 < b) : 0 ≤ a.tmod b ∧ a.tmod b < b := by
  rw [Int.tmod_eq_emod_of_nonneg ha]
  exact ⟨Int.emod_nonneg a (by omega), Int.emod_lt_of_pos a hb⟩
theorem e41L1 {r : R} (hg : Good r) {x : List Int} (hx : ∀ n ∈ x, 0 ≤ n ∧ n ≤ 255) (hl : x.length < 2 ^ 63) : ∀ (m n i : Nat) (s : List Int), m < n → i + m = r.Points.length → s.length = i → (∀ j, j < i → 0 ≤ s[j]! ∧ s[j]! ≤ 9000) →
    ∃ s', F41L1 r x n (i, s) = some (.inr s') ∧ s'.length = r.Points.length ∧ ∀ j, j < r.Points.length → 0 ≤ s'[j]! ∧ s'[j]! ≤ 9000 := by
  have hL := hg.n1
  have hs0 := hg.s0
  have hs1 := hg.s1
  intro m
  induction m with
  | zero =>
    intro n i s hn hi hs h
    obtain ⟨n, rfl⟩ : ∃ j, n = j + 1 := ⟨n - 1, by omega⟩
    rw [F41L1, if_neg (by simp; omega)]
    exact ⟨s, rfl, by omega, fun j hj => h j (by omega)⟩
  | succ m ih =>
    intro n i s hn hi hs h
    obtain ⟨n, rfl⟩ : ∃ j, n = j + 1 := ⟨n - 1, by omega⟩
    have hp := hg.pt r.Points[i]! (by rw [getElem!_pos r.Points i (by omega)]; exact List.getElem_mem _)
    obtain ⟨t, ht, t0, t1⟩ := e71 hx hl i
    rw [F41L1, if_pos (by simp; omega)]
    simp only
    rw [idx_nat (by omega), Option.bind_some, ht]
    simp only [Option.bind_some]
    have fin : ∀ lo hi : Int, r.Points[i]!.Lo ≤ lo → hi ≤ r.Points[i]!.Hi → ∃ s', (if decide (lo > hi) = true then ((need ((w64 ((w64 (r.Points[i]!.Lo - r.Points[i]!.Lo)) + 1)) ≠ 0)).bind fun x13 => (need ((s.length + ([(w64 (r.Points[i]!.Lo + (t.tmod (w64 ((w64 (r.Points[i]!.Lo - r.Points[i]!.Lo)) + 1)))))] : List Int).length) * 8 ≤ 140737488355328 ∧ s.length + ([(w64 (r.Points[i]!.Lo + (t.tmod (w64 ((w64 (r.Points[i]!.Lo - r.Points[i]!.Lo)) + 1)))))] : List Int).length ≤ 9223372036854775807)).bind fun x14 => F41L1 r x n ((w64 ((i : Int) + 1)), (s ++ ([(w64 (r.Points[i]!.Lo + (t.tmod (w64 ((w64 (r.Points[i]!.Lo - r.Points[i]!.Lo)) + 1)))))] : List Int)))) else ((need ((w64 ((w64 (hi - lo)) + 1)) ≠ 0)).bind fun x16 => (need ((s.length + ([(w64 (lo + (t.tmod (w64 ((w64 (hi - lo)) + 1)))))] : List Int).length) * 8 ≤ 140737488355328 ∧ s.length + ([(w64 (lo + (t.tmod (w64 ((w64 (hi - lo)) + 1)))))] : List Int).length ≤ 9223372036854775807)).bind fun x17 => F41L1 r x n ((w64 ((i : Int) + 1)), (s ++ ([(w64 (lo + (t.tmod (w64 ((w64 (hi - lo)) + 1)))))] : List Int))))) = some (.inr s') ∧ s'.length = r.Points.length ∧ ∀ j, j < r.Points.length → 0 ≤ s'[j]! ∧ s'[j]! ≤ 9000 := by
      intro lo hi' h1 h2
      have go : ∀ y : Int, 0 ≤ y → y ≤ 9000 → ∃ s', F41L1 r x n ((w64 ((i : Int) + 1)), s ++ [y]) = some (.inr s') ∧ s'.length = r.Points.length ∧ ∀ j, j < r.Points.length → 0 ≤ s'[j]! ∧ s'[j]! ≤ 9000 := by
        intro y y0 y1
        rw [w64_nat (by omega)]
        refine ih n (i + 1) _ (by omega) (by omega) (by simp [hs]) fun j hj => ?_
        rw [getb_append _ _ _ (by omega)]
        split
        · exact ⟨y0, y1⟩
        · exact h j (by omega)
      by_cases hc : lo > hi'
      · rw [if_pos (by simpa using hc), Int.sub_self]
        have e : w64 (w64 0 + 1) = 1 := rfl
        rw [e, need_true (by omega), Option.bind_some, need_true (by simp; omega), Option.bind_some]
        have := tmod_room t0 (show (0 : Int) < 1 by omega)
        rw [w64_id (n := r.Points[i]!.Lo + t.tmod 1) (by omega) (by omega)]
        exact go _ (by omega) (by omega)
      · rw [if_neg (by simpa using hc), w64_id (n := hi' - lo) (by omega) (by omega), w64_id (n := hi' - lo + 1) (by omega) (by omega), need_true (by omega), Option.bind_some, need_true (by simp; omega), Option.bind_some]
        have := tmod_room t0 (show (0 : Int) < hi' - lo + 1 by omega)
        rw [w64_id (n := lo + t.tmod (hi' - lo + 1)) (by omega) (by omega)]
        exact go _ (by omega) (by omega)
    by_cases h0 : 0 < i
    · have e : decide ((i : Int) > 0) = true := by simp only [decide_eq_true_eq]; omega
      have hy := h (i - 1) (by omega)
      rw [e, if_pos rfl, w64_pred h0 (by omega), idx_nat (by omega)]
      simp only [Option.bind_some, outK_inr]
      rw [w64_id (n := s[i - 1]! - r.Steep) (by omega) (by omega), w64_id (n := s[i - 1]! + r.Steep) (by omega) (by omega)]
      exact fin _ _ (by split <;> omega) (by split <;> omega)
    · have e : decide ((i : Int) > 0) = false := by simp only [decide_eq_false_iff_not]; omega
      rw [e, if_neg (by simp)]
      simp only [Option.bind_some, outK_inr]
      exact fin _ _ (Int.le_refl _) (Int.le_refl _)
theorem e41 {k : Nat} (hk : 20 ≤ k) {r : R} (hg : Good r) {x : List Int} (hx : ∀ n ∈ x, 0 ≤ n ∧ n ≤ 255) (hl : x.length < 2 ^ 63) : ∃ s, F41 k r x = some s ∧ GoodS r s := by
  unfold F41
  obtain ⟨s, h1, h2, h3⟩ := e41L1 hg hx hl r.Points.length k 0 [] (by have := hg.n1; omega) (by omega) rfl (fun j hj => by omega)
  rw [show ((0 : Nat) : Int) = 0 from rfl] at h1
  rw [h1]
  exact ⟨s, rfl, hg, h2, fun i hi => h3 i (by omega)⟩

theorem findB_some {S : Int} {ps : List P} : ∀ (m b x y : Nat), findB S ps m b = some (x, y) → x ≤ y ∧ y < b + m ∧ noneB S ps x y = true := by
  intro m
  induction m with
  | zero => intro b x y h; cases h
  | succ m ih =>
    intro b x y h
    rw [findB] at h
    cases hf : findA S ps b (b + 1) with
    | none => rw [hf] at h; have := ih _ _ _ h; exact ⟨this.1, by omega, this.2.2⟩
    | some a =>
      rw [hf] at h
      cases h
      have := findA_some _ _ hf
      exact ⟨by omega, by omega, this.2⟩
theorem findB_none {S : Int} {ps : List P} : ∀ (m b : Nat), findB S ps m b = none → ∀ x y, x ≤ y → b ≤ y → y < b + m → noneB S ps x y = false := by
  intro m
  induction m with
  | zero => intro b h x y _ _ _; omega
  | succ m ih =>
    intro b h x y h1 h2 h3
    rw [findB] at h
    cases hf : findA S ps b (b + 1) with
    | none =>
      rw [hf] at h
      by_cases e : y = b
      · subst e; exact (findA_none _).1 hf x (by omega)
      · exact ih _ h x y h1 (by omega) (by omega)
    | some a => rw [hf] at h; cases h
theorem law8 (r : R) (x : List Int) (hx : ∀ n ∈ x, 0 ≤ n ∧ n ≤ 255) (hl : x.length < 2 ^ 63) : F8 200 r x = some true := by
  unfold F8
  obtain ⟨v, hv1, hv2⟩ := e40 (k := 200) (by omega) r
  rw [e21 (by omega), Option.bind_some, hv1, Option.bind_some]
  by_cases hg : Good r
  · have ev : v = true := hv2.2 hg
    have hL := hg.n1
    rw [ev, if_neg (by simp)]
    obtain ⟨b, hb1, hb2⟩ := e18 (k := 200) (by omega) r
    rw [hb1, Option.bind_some]
    have hpv : prev r = match findB r.Steep r.Points r.Points.length 0 with
      | some (a, b) => ((a : Int), (b : Int), (0 : Int))
      | none => (0, 0, 4) := by unfold prev; rw [chk_good hg, if_neg (by simp)]; cases findB r.Steep r.Points r.Points.length 0 <;> rfl
    cases hf : findB r.Steep r.Points r.Points.length 0 with
    | none =>
      rw [hf] at hpv
      rw [hpv]
      have hs : Some' r.Steep r.Points := some'_iff.2 fun p q h1 h2 => findB_none _ _ hf p q h1 (Nat.zero_le _) (by omega)
      have := (hb2.ok hg hs).1
      rw [if_pos (by simp), this]
      simp only [beq_self_eq_true, cond_true, optG_true, awake200, Option.bind_some]
    | some q =>
      obtain ⟨a, c⟩ := q
      rw [hf] at hpv
      simp only at hpv
      rw [hpv]
      obtain ⟨h1, h2, h3⟩ := findB_some _ _ _ _ hf
      have hs : ¬ Some' r.Steep r.Points := fun hs => by rw [some'_iff.1 hs a c h1 (by omega)] at h3; cases h3
      have hbd := hb2.down hg hs
      rw [hbd, if_neg (by simp)]
      simp only
      rw [if_neg]
      · rw [idx_nat (by omega), Option.bind_some, idx_nat (by omega), Option.bind_some]
        have p1 := hg.pts.pt a (by omega)
        have p2 := hg.pts.pt c (by omega)
        have f1 := far_nonneg hg.s0 a c
        have f2 := far_le hg.s0 (by have := hg.s1; omega) (i := a) (k := c) (by omega) (by omega)
        have e : w64 (w64 ((c : Int) - a) * r.Steep) = far r.Steep a c := by
          rw [w64_id (n := (c : Int) - a) (by omega) (by omega)]
          have : ((c : Int) - a) * r.Steep = far r.Steep a c := by
            unfold far dist; rw [if_pos h1, Int.mul_comm]
          rw [this, w64_id (by omega) (by omega)]
        rw [e, w64_id (n := r.Points[c]!.Hi + far r.Steep a c) (by omega) (by omega), w64_id (n := r.Points[a]!.Hi + far r.Steep a c) (by omega) (by omega)]
        have hn : (cond (decide (r.Points[a]!.Lo > r.Points[c]!.Hi + far r.Steep a c)) true (decide (r.Points[c]!.Lo > r.Points[a]!.Hi + far r.Steep a c))) = true := by
          unfold noneB at h3
          revert h3
          cases decide (r.Points[a]!.Lo > r.Points[c]!.Hi + far r.Steep a c) <;> simp
        rw [hn]
        simp only [beq_self_eq_true, cond_true, optG_true]
        obtain ⟨s, g1, g2⟩ := e41 (k := 200) (by omega) hg hx hl
        rw [g1, Option.bind_some]
        obtain ⟨d, g3, g4⟩ := e42 (k := 200) (by omega) g2
        have : d = false := by
          cases d with
          | false => rfl
          | true => exact absurd ((g4.1 rfl).some hg.s0) hs
        rw [g3, Option.bind_some, this]
        simp only [Bool.not_false, optG_true, awake200, Option.bind_some]
        rfl
      · have e1 : decide ((a : Int) < 0) = false := by simp
        have e2 : decide ((a : Int) > c) = false := by simp only [decide_eq_false_iff_not]; omega
        have e3 : decide ((c : Int) ≥ (r.Points.length : Int)) = false := by simp only [decide_eq_false_iff_not]; omega
        rw [e1, e2, e3]; simp
  · have ev : v = false := by
      cases v with
      | false => rfl
      | true => exact absurd (hv2.1 rfl) hg
    have hb := chk_bad hg
    have hpv : prev r = (0, 0, (chk r).2.2) := by unfold prev; rw [if_pos (by simpa using hb)]
    have e : ((chk r).2.2 != 0) = true := by simpa using hb
    rw [ev, if_pos (by simp), hpv]
    simp only [e, beq_self_eq_true, cond_true, optG_true, awake200, Option.bind_some]

theorem better_le0 {a b : Int × Int} (h : better false a b = false) : ¬ (a.1 < b.1 ∨ a.1 = b.1 ∧ a.2 < b.2) := by
  simp only [better, Bool.false_eq_true, if_false, Bool.or_eq_false_iff, Bool.and_eq_false_iff, decide_eq_false_iff_not, beq_eq_false_iff_ne, ne_eq] at h
  omega
theorem better_le1 {a b : Int × Int} (h : better true a b = false) : ¬ (a.2 < b.2 ∨ a.2 = b.2 ∧ a.1 < b.1) := by
  simp only [better, if_true, Bool.or_eq_false_iff, Bool.and_eq_false_iff, decide_eq_false_iff_not, beq_eq_false_iff_ne, ne_eq] at h
  omega
/-- What Best promises. -/
theorem ORes.best {r : R} {w : Bool} {res : List Int × Int × Int × Int} (h : ORes r w res) (hg : Good r) (hs : Some' r.Steep r.Points) :
    res.2.2.2 = 0 ∧ Fine r res.1 ∧ res.2.1 = fills r.Points res.1 ∧ res.2.2.1 = manyL 0 (depths r.Points res.1) ∧ ∀ s, Fine r s → better w (fills r.Points s, manyL 0 (depths r.Points s)) (res.2.1, res.2.2.1) = false := by
  obtain ⟨y, h1, rfl⟩ := h.ok hg hs
  obtain ⟨g1, g2, g3⟩ := opt_some _ _ _ _ _ h1
  rw [cost_eq] at g2
  refine ⟨rfl, (fit_fine hg).1 g1, by simp only; rw [g2], by simp only; rw [g2], fun s hs' => ?_⟩
  have := g3 s ((fit_fine hg).2 hs')
  rwa [cost_eq] at this
theorem e9L1 {r : R} (hg : Good r) {is : Bool} {fill many : Int} {other : List Int} (ho : is = true ↔ Fine r other) (hf : fill = fills r.Points other) (hm : many = manyL 0 (depths r.Points other)) : ∀ (m n i : Nat), m < n → i + m = 2 → F9L1 200 r is fill many n i = some (.inr ()) := by
  have hL := hg.n1
  intro m
  induction m with
  | zero =>
    intro n i hn hi
    obtain ⟨n, rfl⟩ : ∃ j, n = j + 1 := ⟨n - 1, by omega⟩
    rw [F9L1, if_neg (by simp; omega)]
  | succ m ih =>
    intro n i hn hi
    obtain ⟨n, rfl⟩ : ∃ j, n = j + 1 := ⟨n - 1, by omega⟩
    rw [F9L1, if_pos (by simp; omega)]
    obtain ⟨res, h1, h2⟩ := e36 (k := 200) (by omega) r ((i : Int) == 1)
    rw [h1, Option.bind_some, w64_nat (by omega)]
    have nxt := ih n (i + 1) (by omega) (by omega)
    by_cases hs : Some' r.Steep r.Points
    · obtain ⟨g1, g2, g3, g4, g5⟩ := h2.best hg hs
      have hgs := g2.goodS hg
      have hdl := hgs.dlen
      obtain ⟨d, k1, k2⟩ := e42 (k := 200) (by omega) hgs
      have hd : d = true := k2.2 g2
      rw [if_neg (by simp [g1]), k1, Option.bind_some, hd]
      simp only [Bool.not_true, Bool.not_false, optG_true, cond_false]
      rw [e43 (by omega) hgs, Option.bind_some, ← g3]
      simp only [bne_self_eq_false, Bool.not_false, optG_true, cond_false]
      rw [e45 (by omega) hgs, Option.bind_some, e44 (by omega) hgs.deep (by omega), Option.bind_some, ← g4]
      simp only [bne_self_eq_false, Bool.false_eq_true, if_false]
      rw [if_neg]
      · exact nxt
      · cases hi' : is with
        | false => simp
        | true =>
          have := g5 other (ho.1 hi')
          rw [← hf, ← hm] at this
          have hi01 : i = 0 ∨ i = 1 := by omega
          rcases hi01 with rfl | rfl
          · have h3 := better_le0 this
            by_cases c1 : fill < res.2.1
            · exact absurd (.inl c1) h3
            · by_cases c2 : fill = res.2.1
              · by_cases c3 : many < res.2.2.1
                · exact absurd (.inr ⟨c2, c3⟩) h3
                · simp [c1, c2, c3]
              · simp [c1, c2]
          · have h3 := better_le1 this
            by_cases c1 : many < res.2.2.1
            · exact absurd (.inl c1) h3
            · by_cases c2 : many = res.2.2.1
              · by_cases c3 : fill < res.2.1
                · exact absurd (.inr ⟨c2, c3⟩) h3
                · simp [c1, c2, c3]
              · simp [c1, c2]
    · have := h2.down hg hs
      rw [this, if_pos (by simp), if_neg]
      · exact nxt
      · have : is = false := by
          cases hi' : is with
          | false => rfl
          | true => exact absurd ((ho.1 hi').some hg.s0) hs
        rw [this]; simp
theorem law9 (r : R) (x : List Int) (hx : ∀ n ∈ x, 0 ≤ n ∧ n ≤ 255) (hl : x.length < 2 ^ 63) : F9 200 r x = some true := by
  unfold F9
  obtain ⟨v, hv1, hv2⟩ := e40 (k := 200) (by omega) r
  rw [hv1, Option.bind_some]
  by_cases hg : Good r
  · have ev : v = true := hv2.2 hg
    have hL := hg.n1
    rw [ev, if_neg (by simp)]
    obtain ⟨s, g1, g2⟩ := e41 (k := 200) (by omega) hg hx hl
    obtain ⟨d, g3, g4⟩ := e42 (k := 200) (by omega) g2
    have hdl := g2.dlen
    rw [g1, Option.bind_some, g3, Option.bind_some, e43 (by omega) g2, Option.bind_some, e45 (by omega) g2, Option.bind_some, e44 (by omega) g2.deep (by omega), Option.bind_some]
    have := e9L1 hg g4 rfl rfl 2 200 0 (by omega) (by omega)
    rw [show ((0 : Nat) : Int) = 0 from rfl] at this
    rw [this, Option.bind_some, outK_inr, awake200]
    rfl
  · have ev : v = false := by
      cases v with
      | false => rfl
      | true => exact absurd (hv2.1 rfl) hg
    rw [ev, if_pos (by simp)]
    obtain ⟨res, h1, h2⟩ := e36 (k := 200) (by omega) r true
    have := h2.bad hg
    have e : ((chk r).2.2 != 0) = true := by simpa using chk_bad hg
    rw [h1, Option.bind_some, this]
    simp only [e, cond_true, optG_true, awake200, Option.bind_some]
theorem Good.steep {r : R} (hg : Good r) {S : Int} (h0 : 0 ≤ S) (h1 : S ≤ 200) : Good ⟨S, r.Points⟩ := ⟨h0, h1, hg.n0, hg.n1, hg.pt⟩
theorem law11 (r : R) (less : Int) (hl : 0 ≤ less ∧ less ≤ 65535) : F11 200 r less = some true := by
  unfold F11
  obtain ⟨v, hv1, hv2⟩ := e40 (k := 200) (by omega) r
  obtain ⟨n, hn1, hn2⟩ := e23 (k := 200) (by omega) r
  rw [hn1, Option.bind_some, hv1, Option.bind_some]
  by_cases hg : Good r
  · have ev : v = true := hv2.2 hg
    obtain ⟨m1, m2⟩ := hn2.ok hg
    rw [ev, if_neg (by simp)]
    obtain ⟨b, hb1, hb2⟩ := e18 (k := 200) (by omega) r
    rw [hb1, Option.bind_some, m1]
    have hge := m2.ge
    have key : (b.2 == 0) = decide (n.1 ≤ r.Steep) := by
      by_cases hs : Some' r.Steep r.Points
      · have h1 := (hb2.ok hg hs).1
        have : n.1 ≤ r.Steep := by
          rcases Int.lt_or_le r.Steep n.1 with h | h
          · exact absurd hs (m2.not _ hg.s0 h)
          · exact h
        rw [h1]; simp [this]
      · have h1 := hb2.down hg hs
        have : ¬ n.1 ≤ r.Steep := fun h => hs (m2.is.mono h)
        rw [h1]; simp [this]
    rw [key]
    have e1 : decide (n.1 < 0) = false := by simp only [decide_eq_false_iff_not]; omega
    rw [e1]
    simp only [bne_self_eq_false, cond_false, beq_self_eq_true, Bool.not_true, Bool.false_eq_true, if_false]
    by_cases h2 : n.1 > 200
    · rw [if_pos (by simpa using h2), awake200]; rfl
    · rw [if_neg (by simpa using h2)]
      have hg2 := hg.steep m2.ge (by omega)
      obtain ⟨c, hc1, hc2⟩ := e18 (k := 200) (by omega) ⟨n.1, r.Points⟩
      have h3 := (hc2.ok hg2 m2.is).1
      rw [hc1, Option.bind_some, h3, if_neg (by simp)]
      by_cases h4 : n.1 = 0
      · rw [if_pos (by simp [h4]), awake200]; rfl
      · rw [if_neg (by simpa using h4), need_true h4, Option.bind_some]
        rw [show IntKind.i64.wrap less = w64 less from rfl, w64_id (by omega) (by omega)]
        have ht := tmod_room hl.1 (show 0 < n.1 by omega)
        have hg3 := hg.steep ht.1 (show less.tmod n.1 ≤ 200 by omega)
        obtain ⟨d, hd1, hd2⟩ := e18 (k := 200) (by omega) ⟨less.tmod n.1, r.Points⟩
        have h5 := hd2.down hg3 (m2.not _ ht.1 ht.2)
        rw [hd1, Option.bind_some, h5]
        simp only [beq_self_eq_true, cond_true, optG_true, awake200, Option.bind_some]
  · have ev : v = false := by
      cases v with
      | false => rfl
      | true => exact absurd (hv2.1 rfl) hg
    have := hn2.bad hg
    have e : ((chk r).2.2 != 0) = true := by simpa using chk_bad hg
    rw [ev, if_pos (by simp), this]
    simp only [e, beq_self_eq_true, cond_true, optG_true, awake200, Option.bind_some]
end Go.Proofs.Ytadejgckgnbaoaa
