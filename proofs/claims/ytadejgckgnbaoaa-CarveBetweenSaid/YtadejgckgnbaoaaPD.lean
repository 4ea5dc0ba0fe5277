/- What the functions of chapter 04 come to, in plain words: Prevents, Need; and the statement CarveBounds in plain words. -/
import Derived.Test.YtadejgckgnbaoaaPC
namespace Go.Proofs.Ytadejgckgnbaoaa
open Go Go.Sx
set_option linter.all false

theorem take_get {α : Type} [Inhabited α] (l : List α) {m i : Nat} (h : i < m) : (l.take m)[i]! = l[i]! := by
  simp [getElem!_def, List.getElem?_take, h]
theorem drop_get {α : Type} [Inhabited α] (l : List α) (m i : Nat) : (l.drop m)[i]! = l[m + i]! := by
  simp [getElem!_def, List.getElem?_drop]
theorem far_shift (S : Int) (a i k : Nat) : far S i k = far S (a + i) (a + k) := by
  unfold far; congr 1; unfold dist; split <;> split <;> omega
theorem Pts.cut {S : Int} {ps : List P} (h : Pts S ps) (a m : Nat) : Pts S ((ps.drop a).take m) := by
  have hL := h.n1
  refine ⟨h.s0, h.s1, by simp only [List.length_take, List.length_drop]; omega, fun i hi => ?_⟩
  simp only [List.length_take, List.length_drop] at hi
  rw [take_get _ (by omega), drop_get]
  exact h.pt (a + i) (by omega)
/-- Some surface of the points from one to another one is good. -/
theorem some_cut {S : Int} {ps : List P} {a m : Nat} (h : a + m ≤ ps.length) : Some' S ((ps.drop a).take m) ↔ ∀ b c, a ≤ b → b ≤ c → c < a + m → noneB S ps b c = false := by
  rw [some'_iff]
  have hl : ((ps.drop a).take m).length = m := by simp only [List.length_take, List.length_drop]; omega
  rw [hl]
  have key : ∀ i k, i < m → k < m → noneB S ((ps.drop a).take m) i k = noneB S ps (a + i) (a + k) := by
    intro i k hi hk
    unfold noneB
    rw [take_get _ hi, take_get _ hk, drop_get, drop_get, far_shift S a i k]
  constructor
  · intro h' b c h1 h2 h3
    have := h' (b - a) (c - a) (by omega) (by omega)
    rw [key _ _ (by omega) (by omega), show a + (b - a) = b by omega, show a + (c - a) = c by omega] at this
    exact this
  · intro h' b c h1 h2
    rw [key _ _ (by omega) h2]
    exact h' _ _ (by omega) (by omega) (by omega)
theorem e54 {k : Nat} (hk : 20 ≤ k) {S : Int} {ps : List P} (hp : Pts S ps) (h0 : 0 < ps.length) : ∃ b, F54 k ⟨⟨S, ps⟩⟩ = some b ∧ (b = true ↔ Some' S ps) := by
  obtain ⟨l, b, h1, _, h2⟩ := e51 hk hp h0
  unfold F54
  rw [h1]
  exact ⟨b, rfl, h2⟩

/-- The last of some points that allows no surface with a further one. -/
def findA (S : Int) (ps : List P) (b : Nat) : Nat → Option Nat
  | 0 => none
  | a + 1 => if noneB S ps a b then some a else findA S ps b a
theorem findA_none {S : Int} {ps : List P} {b : Nat} : ∀ n, findA S ps b n = none ↔ ∀ a, a < n → noneB S ps a b = false := by
  intro n
  induction n with
  | zero => simp [findA]
  | succ n ih =>
    rw [findA]
    by_cases h : noneB S ps n b = true
    · rw [if_pos h]
      refine ⟨fun h => (by cases h), fun h' => ?_⟩
      rw [h' n (by omega)] at h; cases h
    · rw [if_neg h, ih]
      constructor
      · intro h' a ha
        by_cases e : a = n
        · rw [e]; simpa using h
        · exact h' a (by omega)
      · intro h' a ha; exact h' a (by omega)
theorem findA_some {S : Int} {ps : List P} {b : Nat} : ∀ n a, findA S ps b n = some a → a < n ∧ noneB S ps a b = true := by
  intro n
  induction n with
  | zero => intro a h; cases h
  | succ n ih =>
    intro a h
    rw [findA] at h
    by_cases h' : noneB S ps n b = true
    · rw [if_pos h'] at h; cases h; exact ⟨by omega, h'⟩
    · rw [if_neg h'] at h
      have := ih a h
      exact ⟨by omega, this.2⟩
def findB (S : Int) (ps : List P) : Nat → Nat → Option (Nat × Nat)
  | 0, _ => none
  | n + 1, b => match findA S ps b (b + 1) with
    | some a => some (a, b)
    | none => findB S ps n (b + 1)
/-- What Prevents returns for a row. -/
def prev (r : R) : Int × Int × Int :=
  if (chk r).2.2 != 0 then (0, 0, (chk r).2.2) else match findB r.Steep r.Points r.Points.length 0 with
    | some (a, b) => (a, b, 0)
    | none => (0, 0, 4)

theorem e22L2 {r : R} (hp : Pts r.Steep r.Points) {b : Nat} (hb : b < r.Points.length) : ∀ (m n : Nat), m ≤ n → m ≤ b + 1 → F22L2 r b (n + 1) ((m : Int) - 1) = some (match findA r.Steep r.Points b m with | some a => .inl ((a : Int), (b : Int), (0 : Int)) | none => .inr ()) := by
  intro m
  induction m with
  | zero => intro n _ _; rw [F22L2, if_neg (by simp)]; rfl
  | succ m ih =>
    intro n hn hm
    have hL := hp.n1
    obtain ⟨n, rfl⟩ : ∃ j, n = j + 1 := ⟨n - 1, by omega⟩
    have e : ((m + 1 : Nat) : Int) - 1 = (m : Nat) := by omega
    rw [e, F22L2, if_pos (by simp), e55 hp (by omega) hb, Option.bind_some, findA]
    cases noneB r.Steep r.Points m b with
    | true => rfl
    | false =>
      simp only [Bool.false_eq_true, if_false]
      rw [w64_id (by omega) (by omega)]
      exact ih n (by omega) (by omega)
theorem e22L1 {k : Nat} (hk : 20 ≤ k) {r : R} (hp : Pts r.Steep r.Points) : ∀ (m n b : Nat), m ≤ n → b + m = r.Points.length → F22L1 k r (n + 1) b = some (match findB r.Steep r.Points m b with | some (a, b) => .inl ((a : Int), (b : Int), (0 : Int)) | none => .inr ()) := by
  intro m
  induction m with
  | zero => intro n b _ h; rw [F22L1, if_neg (by simp; omega)]; rfl
  | succ m ih =>
    intro n b hn hm
    have hL := hp.n1
    obtain ⟨n, rfl⟩ : ∃ j, n = j + 1 := ⟨n - 1, by omega⟩
    obtain ⟨k', rfl⟩ : ∃ j, k = j + 1 := ⟨k - 1, by omega⟩
    have := e22L2 hp (b := b) (by omega) (b + 1) k' (by omega) (by omega)
    rw [show ((b + 1 : Nat) : Int) - 1 = (b : Nat) by omega] at this
    rw [F22L1, if_pos (by simp; omega), this, Option.bind_some, findB]
    cases findA r.Steep r.Points b (b + 1) with
    | some a => rfl
    | none =>
      simp only [outK_inr]
      rw [w64_nat (by omega)]
      exact ih n (b + 1) (by omega) (by omega)
theorem e22 {k : Nat} (hk : 20 ≤ k) (r : R) : F22 k r = some (prev r) := by
  unfold F22 prev
  rw [e17 hk, Option.bind_some]
  by_cases hg : Good r
  · rw [chk_good hg]
    simp only [bne_self_eq_false, Bool.false_eq_true, if_false]
    obtain ⟨k', rfl⟩ : ∃ j, k = j + 1 := ⟨k - 1, by omega⟩
    have := e22L1 hk hg.pts r.Points.length k' 0 (by have := hg.n1; omega) (by omega)
    rw [show (0 : Int) = ((0 : Nat) : Int) from rfl, this, Option.bind_some]
    cases findB r.Steep r.Points r.Points.length 0 with
    | none => rfl
    | some q => rfl
  · have hb := chk_bad hg
    rw [if_pos (by simpa using hb), if_pos (by simpa using hb)]

theorem e21L2 {k : Nat} (hk : 20 ≤ k) {r : R} (hp : Pts r.Steep r.Points) {b : Nat} (hb : b < r.Points.length) (hbefore : ∀ i c, i ≤ c → c < b → noneB r.Steep r.Points i c = false) : ∀ (m n : Nat) (x : List P) (a : Nat), m ≤ n → m ≤ b + 1 →
    (∀ i, m ≤ i → i ≤ b → noneB r.Steep r.Points i b = false) → findA r.Steep r.Points b m = some a → F21L2 k r b (n + 1) ((m : Int) - 1, x) = some (.inl ((a : Int), (b : Int), (0 : Int))) := by
  intro m
  induction m with
  | zero => intro n x a _ _ _ h; cases h
  | succ m ih =>
    intro n x a hn hm hi ha
    have hL := hp.n1
    obtain ⟨n, rfl⟩ : ∃ j, n = j + 1 := ⟨n - 1, by omega⟩
    have e : ((m + 1 : Nat) : Int) - 1 = (m : Nat) := by omega
    rw [e, F21L2]
    simp only
    have e2 : (r.Points.drop m).take (((b + 1 : Nat) : Int) - (m : Nat)).toNat = (r.Points.drop m).take (b + 1 - m) := by congr 1; omega
    rw [w64_nat (by omega), sub_drop (by omega) (by omega) (by omega), Option.bind_some, Int.toNat_natCast, e2]
    obtain ⟨o, h1, h2⟩ := e54 hk (hp.cut m (b + 1 - m)) (by simp only [List.length_take, List.length_drop]; omega)
    rw [h1, Option.bind_some]
    rw [some_cut (by omega)] at h2
    rw [findA] at ha
    by_cases hc : noneB r.Steep r.Points m b = true
    · rw [if_pos hc] at ha
      cases ha
      have : o = false := by
        cases o with
        | false => rfl
        | true =>
          have := h2.1 rfl m b (Nat.le_refl _) (by omega) (by omega)
          rw [this] at hc; cases hc
      rw [this]; rfl
    · rw [if_neg hc] at ha
      have : o = true := by
        refine h2.2 fun i c h3 h4 h5 => ?_
        by_cases e : c = b
        · subst e
          by_cases e : i = m
          · rw [e]; simpa using hc
          · exact hi i (by omega) h4
        · exact hbefore i c h4 (by omega)
      rw [this]
      simp only [Bool.not_true, Bool.false_eq_true, if_false]
      rw [w64_id (by omega) (by omega)]
      refine ih n _ a (by omega) (by omega) (fun i h3 h4 => ?_) ha
      by_cases e : i = m
      · rw [e]; simpa using hc
      · exact hi i (by omega) h4
theorem e21L1 {k : Nat} (hk : 20 ≤ k) {r : R} (hp : Pts r.Steep r.Points) : ∀ (m n b : Nat), m ≤ n → b + m = r.Points.length → (∀ i c, i ≤ c → c < b → noneB r.Steep r.Points i c = false) →
    F21L1 k r (n + 1) b = some (match findB r.Steep r.Points m b with | some (a, b) => .inl ((a : Int), (b : Int), (0 : Int)) | none => .inr ()) := by
  intro m
  induction m with
  | zero => intro n b _ h _; rw [F21L1, if_neg (by simp; omega)]; rfl
  | succ m ih =>
    intro n b hn hm hbefore
    have hL := hp.n1
    obtain ⟨n, rfl⟩ : ∃ j, n = j + 1 := ⟨n - 1, by omega⟩
    obtain ⟨k', rfl⟩ : ∃ j, k = j + 1 := ⟨k - 1, by omega⟩
    rw [F21L1, if_pos (by simp; omega), w64_nat (by omega), sub_take (by omega) (by omega), Option.bind_some, Int.toNat_natCast, findB]
    obtain ⟨o, h1, h2⟩ := e54 hk (hp.cut 0 (b + 1)) (by simp only [List.length_take, List.length_drop]; omega)
    rw [some_cut (by omega)] at h2
    rw [List.drop_zero] at h1
    rw [h1, Option.bind_some]
    cases hf : findA r.Steep r.Points b (b + 1) with
    | some a =>
      have ⟨h3, h4⟩ := findA_some _ _ hf
      have : o = false := by
        cases o with
        | false => rfl
        | true =>
          have := h2.1 rfl a b (Nat.zero_le _) (by omega) (by omega)
          rw [this] at h4; cases h4
      rw [this]
      simp only [Bool.false_eq_true, if_false]
      have := e21L2 hk hp (b := b) (by omega) hbefore (b + 1) k' (r.Points.take (b + 1)) a (by omega) (by omega) (fun i h5 h6 => by omega) hf
      rw [show ((b + 1 : Nat) : Int) - 1 = (b : Nat) by omega] at this
      rw [this]; rfl
    | none =>
      have h3 := (findA_none _).1 hf
      have hb' : ∀ i c, i ≤ c → c < b + 1 → noneB r.Steep r.Points i c = false := by
        intro i c h4 h5
        by_cases e : c = b
        · subst e; exact h3 i (by omega)
        · exact hbefore i c h4 (by omega)
      have : o = true := h2.2 fun i c _ h4 h5 => hb' i c h4 (by omega)
      rw [this, if_pos rfl]
      exact ih n (b + 1) (by omega) (by omega) hb'
theorem e21 {k : Nat} (hk : 20 ≤ k) (r : R) : F21 k r = some (prev r) := by
  unfold F21 prev
  rw [e16 hk, Option.bind_some]
  by_cases hg : Good r
  · rw [chk_good hg]
    simp only [bne_self_eq_false, Bool.false_eq_true, if_false]
    obtain ⟨k', rfl⟩ : ∃ j, k = j + 1 := ⟨k - 1, by omega⟩
    have := e21L1 hk hg.pts r.Points.length k' 0 (by have := hg.n1; omega) (by omega) (fun i c _ h => by omega)
    rw [show (0 : Int) = ((0 : Nat) : Int) from rfl, this, Option.bind_some]
    cases findB r.Steep r.Points r.Points.length 0 with
    | none => rfl
    | some q => rfl
  · have hb := chk_bad hg
    rw [if_pos (by simpa using hb), if_pos (by simpa using hb)]

/-- The least number from 0 to 9000 with which some surface is good. -/
structure Need' (ps : List P) (v : Int) : Prop where
  ge : 0 ≤ v
  le : v ≤ 9000
  is : Some' v ps
  not : ∀ S, 0 ≤ S → S < v → ¬ Some' S ps
theorem far_mono {S T : Int} (h : S ≤ T) (i k : Nat) : far S i k ≤ far T i k := Int.mul_le_mul_of_nonneg_right h (dist_nonneg i k)
theorem Some'.mono {S T : Int} {ps : List P} (h : Some' S ps) (hST : S ≤ T) : Some' T ps := by
  intro a b ha hb
  have := h a b ha hb
  have := far_mono hST a b
  omega
theorem Need'.uniq {ps : List P} {u v : Int} (h : Need' ps u) (h' : Need' ps v) : u = v := by
  rcases Int.lt_trichotomy u v with e | e | e
  · exact absurd h.is (h'.not u h.ge e)
  · exact e
  · exact absurd h'.is (h.not v h'.ge e)
theorem some_9000 {S : Int} {ps : List P} (hp : Pts S ps) : Some' 9000 ps := by
  intro a b ha hb
  have h1 := hp.pt a ha
  have h2 := hp.pt b hb
  by_cases e : a = b
  · subst e; simp only [far_self]; omega
  · have : 1 ≤ dist a b := by unfold dist; split <;> omega
    have : 9000 * 1 ≤ far 9000 a b := Int.mul_le_mul_of_nonneg_left this (by omega)
    omega
theorem half {a b : Int} (h : 0 ≤ a) (h' : a < b) (hb : b ≤ 9000) : w64 ((w64 (a + b)).tdiv 2) = (a + b) / 2 := by
  rw [w64_id (n := a + b) (by omega) (by omega), Int.tdiv_eq_ediv_of_nonneg (by omega), w64_id (by omega) (by omega)]
theorem e56L1 {k : Nat} (hk : 20 ≤ k) {S : Int} {ps : List P} (hp : Pts S ps) (h0 : 0 < ps.length) : ∀ (n : Nat) (lo hi : Int), 0 ≤ lo → lo ≤ hi → hi ≤ 9000 → hi - lo < 2 ^ n → Some' hi ps → (∀ T, 0 ≤ T → T < lo → ¬ Some' T ps) →
    ∃ v, F56L1 k S ps (n + 1) (lo, hi) = some (.inr v) ∧ Need' ps v := by
  intro n
  induction n with
  | zero =>
    intro lo hi h1 h2 h3 h4 h5 h6
    have : lo = hi := by omega
    subst this
    rw [F56L1, if_neg (by simp)]
    exact ⟨lo, rfl, h1, h3, h5, h6⟩
  | succ n ih =>
    intro lo hi h1 h2 h3 h4 h5 h6
    rw [F56L1]
    by_cases e : lo < hi
    · rw [if_pos (by simpa using e)]
      simp only
      rw [half h1 e h3]
      unfold F57
      obtain ⟨o, g1, g2⟩ := e54 (S := (lo + hi) / 2) hk ⟨by omega, by omega, hp.n1, hp.pt⟩ h0
      rw [g1, Option.bind_some, Option.bind_some]
      have e2 : (2 : Int) ^ (n + 1) = 2 * 2 ^ n := by rw [Int.pow_succ]; omega
      rw [e2] at h4
      cases o with
      | true =>
        rw [if_pos rfl]
        exact ih lo ((lo + hi) / 2) h1 (by omega) (by omega) (by omega) (g2.1 rfl) h6
      | false =>
        simp only [Bool.false_eq_true, if_false]
        rw [w64_id (by omega) (by omega)]
        refine ih _ hi (by omega) (by omega) h3 (by omega) h5 fun T hT hT' hs => ?_
        have := g2.2 (hs.mono (by omega))
        cases this
    · have : lo = hi := by omega
      subst this
      rw [if_neg (by simp)]
      exact ⟨lo, rfl, h1, h3, h5, h6⟩
theorem e24L1 {k : Nat} (hk : 20 ≤ k) {r : R} (hp : Pts r.Steep r.Points) : ∀ (n : Nat) (lo hi : Int), 0 ≤ lo → lo ≤ hi → hi ≤ 9000 → hi - lo < 2 ^ n → Some' hi r.Points → (∀ T, 0 ≤ T → T < lo → ¬ Some' T r.Points) →
    ∃ v, F24L1 k r (n + 1) (lo, hi) = some (.inr v) ∧ Need' r.Points v := by
  intro n
  induction n with
  | zero =>
    intro lo hi h1 h2 h3 h4 h5 h6
    have : lo = hi := by omega
    subst this
    rw [F24L1, if_neg (by simp)]
    exact ⟨lo, rfl, h1, h3, h5, h6⟩
  | succ n ih =>
    intro lo hi h1 h2 h3 h4 h5 h6
    rw [F24L1]
    by_cases e : lo < hi
    · rw [if_pos (by simpa using e)]
      simp only
      rw [half h1 e h3]
      obtain ⟨o, g1, g2⟩ := e52 (S := (lo + hi) / 2) hk (r := r) ⟨by omega, by omega, hp.n1, hp.pt⟩
      rw [g1, Option.bind_some]
      have e2 : (2 : Int) ^ (n + 1) = 2 * 2 ^ n := by rw [Int.pow_succ]; omega
      rw [e2] at h4
      cases o with
      | true =>
        rw [if_pos rfl]
        exact ih lo ((lo + hi) / 2) h1 (by omega) (by omega) (by omega) (g2.1 rfl) h6
      | false =>
        simp only [Bool.false_eq_true, if_false]
        rw [w64_id (by omega) (by omega)]
        refine ih _ hi (by omega) (by omega) h3 (by omega) h5 fun T hT hT' hs => ?_
        have := g2.2 (hs.mono (by omega))
        cases this
    · have : lo = hi := by omega
      subst this
      rw [if_neg (by simp)]
      exact ⟨lo, rfl, h1, h3, h5, h6⟩
/-- What Need returns for a row. -/
structure NRes (r : R) (res : Int × Int) : Prop where
  bad : ¬ Good r → res = (0, (chk r).2.2)
  ok : Good r → res.2 = 0 ∧ Need' r.Points res.1
theorem NRes.uniq {r : R} {a b : Int × Int} (ha : NRes r a) (hb : NRes r b) : a = b := by
  by_cases hg : Good r
  · obtain ⟨h1, h2⟩ := ha.ok hg
    obtain ⟨h3, h4⟩ := hb.ok hg
    exact Prod.ext (h2.uniq h4) (h1.trans h3.symm)
  · rw [ha.bad hg, hb.bad hg]
theorem e23 {k : Nat} (hk : 20 ≤ k) (r : R) : ∃ res, F23 k r = some res ∧ NRes r res := by
  unfold F23
  rw [e16 hk, Option.bind_some]
  by_cases hg : Good r
  · rw [chk_good hg]
    simp only [bne_self_eq_false, Bool.false_eq_true, if_false]
    unfold F56
    obtain ⟨k', rfl⟩ : ∃ j, k = j + 1 := ⟨k - 1, by omega⟩
    have hpow : (9000 : Int) - 0 < 2 ^ k' := by
      have : (2 : Int) ^ 19 ≤ 2 ^ k' := by
        exact_mod_cast Nat.pow_le_pow_right (by omega) (show 19 ≤ k' by omega)
      omega
    obtain ⟨v, h1, h2⟩ := e56L1 hk hg.pts (by have := hg.n0; omega) k' 0 9000 (by omega) (by omega) (by omega) hpow (some_9000 hg.pts) (fun T h1 h2 => by omega)
    rw [h1]
    exact ⟨_, rfl, fun h => absurd hg h, fun _ => ⟨rfl, h2⟩⟩
  · rw [if_pos (by simpa using chk_bad hg)]
    exact ⟨_, rfl, fun _ => rfl, fun h => absurd h hg⟩
theorem e24 {k : Nat} (hk : 20 ≤ k) (r : R) : ∃ res, F24 k r = some res ∧ NRes r res := by
  unfold F24
  rw [e17 hk, Option.bind_some]
  by_cases hg : Good r
  · rw [chk_good hg]
    simp only [bne_self_eq_false, Bool.false_eq_true, if_false]
    obtain ⟨k', rfl⟩ : ∃ j, k = j + 1 := ⟨k - 1, by omega⟩
    have hpow : (9000 : Int) - 0 < 2 ^ k' := by
      have : (2 : Int) ^ 19 ≤ 2 ^ k' := by
        exact_mod_cast Nat.pow_le_pow_right (by omega) (show 19 ≤ k' by omega)
      omega
    obtain ⟨v, h1, h2⟩ := e24L1 hk hg.pts k' 0 9000 (by omega) (by omega) (by omega) hpow (some_9000 hg.pts) (fun T h1 h2 => by omega)
    rw [h1]
    exact ⟨_, rfl, fun h => absurd hg h, fun _ => ⟨rfl, h2⟩⟩
  · rw [if_pos (by simpa using chk_bad hg)]
    exact ⟨_, rfl, fun _ => rfl, fun h => absurd h hg⟩

theorem e20L1 {l : List Sp} (hl : l.length < 2 ^ 62) : ∀ (m n i : Nat), m ≤ n → i + m = l.length → F20L1 l l (n + 1) i = some (.inr ()) := by
  intro m
  induction m with
  | zero => intro n i _ h; rw [F20L1, if_neg (by simp; omega)]
  | succ m ih =>
    intro n i hn hm
    obtain ⟨n, rfl⟩ : ∃ j, n = j + 1 := ⟨n - 1, by omega⟩
    rw [F20L1, if_pos (by simp; omega), idx_nat (by omega), Option.bind_some, Option.bind_some, if_neg (by simp), w64_nat (by omega)]
    exact ih n (i + 1) (by omega) (by omega)
theorem e20 {k : Nat} {l : List Sp} (hk : l.length < k) (hl : l.length < 2 ^ 62) : F20 k l l = some true := by
  unfold F20
  rw [if_neg (by simp)]
  obtain ⟨k', rfl⟩ : ∃ j, k = j + 1 := ⟨k - 1, by omega⟩
  have := e20L1 hl l.length k' 0 (by omega) (by omega)
  rw [show (0 : Int) = ((0 : Nat) : Int) from rfl, this]
  rfl
theorem BRes.len {r : R} {res : List Sp × Int} (h : BRes r res) : res.1.length ≤ 10 := by
  by_cases hg : Good r
  · by_cases hs : Some' r.Steep r.Points
    · have := (h.ok hg hs).2.len; have := hg.n1; omega
    · rw [h.down hg hs]; simp
  · rw [h.bad hg]; simp
set_option maxRecDepth 100000 in
theorem awake : F25 60 = some true := by kernel_rfl
theorem law3 (r : R) : F3 60 r = some true := by
  unfold F3
  rw [e16 (by omega), e17 (by omega), Option.bind_some, Option.bind_some, if_neg (by simp)]
  obtain ⟨a, h1, h2⟩ := e18 (k := 60) (by omega) r
  obtain ⟨b, h3, h4⟩ := e19 (k := 60) (by omega) r
  have : a = b := h2.uniq h4
  subst this
  rw [h1, h3, Option.bind_some, Option.bind_some, e20 (by have := h2.len; omega) (by have := h2.len; omega), Option.bind_some, if_neg (by simp), e21 (by omega), e22 (by omega), Option.bind_some, Option.bind_some, if_neg (by simp)]
  obtain ⟨a, h1, h2⟩ := e23 (k := 60) (by omega) r
  obtain ⟨b, h3, h4⟩ := e24 (k := 60) (by omega) r
  have : a = b := h2.uniq h4
  subst this
  rw [h1, h3, Option.bind_some, Option.bind_some]
  simp only [beq_self_eq_true, cond_true, optG_true, awake, Option.bind_some]
end Go.Proofs.Ytadejgckgnbaoaa
