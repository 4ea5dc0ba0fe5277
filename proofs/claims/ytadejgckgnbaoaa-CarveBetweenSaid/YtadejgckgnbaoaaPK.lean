/- What Why, Plaster, Passes and Carved come to, in plain words. -/
import Derived.Test.YtadejgckgnbaoaaPG
import Derived.Test.YtadejgckgnbaoaaDK
namespace Go.Proofs.Ytadejgckgnbaoaa
open Go Go.Sx
set_option linter.all false

/-- The error of a row and a surface. -/
def surfE (r : R) (s : List Int) : Int :=
  if (chk r).2.2 != 0 then (chk r).2.2 else if s.length ≠ r.Points.length then 3 else if s.all okH then 0 else 7
structure GoodS (r : R) (s : List Int) : Prop where
  good : Good r
  len : s.length = r.Points.length
  hgt : ∀ i, i < s.length → 0 ≤ s[i]! ∧ s[i]! ≤ 9000
theorem all_okH {s : List Int} : s.all okH = true ↔ ∀ i, i < s.length → 0 ≤ s[i]! ∧ s[i]! ≤ 9000 := by
  rw [List.all_eq_true]
  constructor
  · intro h i hi
    have := h s[i]! (by rw [getElem!_pos s i hi]; exact List.getElem_mem _)
    simpa [okH] using this
  · intro h x hx
    obtain ⟨i, hi, rfl⟩ := List.mem_iff_getElem.1 hx
    have := h i hi
    rw [getElem!_pos s i hi] at this
    simpa [okH] using this
theorem surfE_spec (r : R) (s : List Int) : (surfE r s = 0 ∧ GoodS r s) ∨ (surfE r s ≠ 0 ∧ ¬ GoodS r s) := by
  unfold surfE
  rcases chk_spec r with ⟨h1, h2⟩ | ⟨h1, h2⟩
  · rw [h1]
    simp only [bne_self_eq_false, Bool.false_eq_true, if_false]
    by_cases hl : s.length = r.Points.length
    · rw [if_neg (by simpa using hl)]
      cases ha : s.all okH with
      | true => exact .inl ⟨rfl, h2, hl, all_okH.1 ha⟩
      | false => exact .inr ⟨by simp, fun h => by rw [all_okH.2 h.hgt] at ha; cases ha⟩
    · rw [if_pos hl]; exact .inr ⟨by simp, fun h => hl h.len⟩
  · rw [if_pos (by simpa using h1)]
    exact .inr ⟨h1, fun h => h2 h.good⟩
theorem surf_good {r : R} {s : List Int} (h : GoodS r s) : surfE r s = 0 := by
  rcases surfE_spec r s with ⟨a, _⟩ | ⟨_, b⟩
  · exact a
  · exact absurd h b
theorem surf_bad {r : R} {s : List Int} (h : ¬ GoodS r s) : surfE r s ≠ 0 := by
  rcases surfE_spec r s with ⟨_, b⟩ | ⟨a, _⟩
  · exact absurd b h
  · exact a
theorem any_okH (s : List Int) : (s.any fun n => decide (n < 0) || decide (n > 9000)) = !(s.all okH) := by
  induction s with
  | nil => rfl
  | cons x s ih =>
    rw [List.any_cons, List.all_cons, ih]
    have : (decide (x < 0) || decide (x > 9000)) = !(okH x) := by
      rw [Bool.eq_iff_iff]; simp only [Bool.or_eq_true, Bool.not_eq_true', Bool.and_eq_false_iff, decide_eq_true_eq, decide_eq_false_iff_not, okH]; omega
    rw [this]; cases okH x <;> simp
theorem e59 {k : Nat} (hk : 20 ≤ k) (r : R) (s : List Int) : ∃ x, F59 k r s = some (x, surfE r s) ∧ (GoodS r s → x = ⟨r⟩) := by
  unfold F59 surfE
  rw [e16 hk, Option.bind_some]
  rcases chk_spec r with ⟨h1, h2⟩ | ⟨h1, h2⟩
  · rw [h1]
    simp only [bne_self_eq_false, Bool.false_eq_true, if_false]
    by_cases hl : s.length = r.Points.length
    · have hL := h2.n1
      rw [if_neg (by simp [hl]), if_neg (by simpa using hl), e49 (by omega) (by omega), Option.bind_some, any_okH]
      cases ha : s.all okH with
      | true => exact ⟨_, rfl, fun _ => rfl⟩
      | false => exact ⟨_, rfl, fun h => by rw [all_okH.2 h.hgt] at ha; cases ha⟩
    · rw [if_pos (by simp; omega), if_pos hl]
      exact ⟨_, rfl, fun h => absurd h.len hl⟩
  · rw [if_pos (by simpa using h1), if_pos (by simpa using h1)]
    exact ⟨_, rfl, fun h => absurd h.good h2⟩
theorem e60L1 {s : List Int} (hs : s.length < 2 ^ 62) : ∀ (m n i : Nat), m < n → i + m = s.length → (F60L1 s (n + 1) (0, i) = some (.inr (if (s.drop i).all okH then 0 else 7))) := by
  intro m
  induction m with
  | zero =>
    intro n i hn hi
    rw [F60L1, if_neg (by simp; omega), List.drop_of_length_le (by omega)]; rfl
  | succ m ih =>
    intro n i hn hi
    obtain ⟨n, rfl⟩ : ∃ j, n = j + 1 := ⟨n - 1, by omega⟩
    rw [F60L1, if_pos (by simp; omega)]
    simp only
    rw [idx_nat (by omega), Option.bind_some, e50h, Option.bind_some, w64_nat (by omega), drop_bang (by omega), List.all_cons]
    cases hx : okH s[i]! with
    | true =>
      simp only [Bool.not_true, Bool.false_eq_true, if_false, Bool.true_and]
      exact ih n (i + 1) (by omega) (by omega)
    | false =>
      simp only [Bool.not_false, if_true, Bool.false_and, Bool.false_eq_true, if_false]
      rw [F60L1, if_neg (by simp)]
theorem e60 {k : Nat} (hk : 20 ≤ k) (r : R) (s : List Int) : F60 k r s = some (surfE r s) := by
  unfold F60 surfE
  obtain ⟨k, rfl⟩ : ∃ j, k = j + 1 := ⟨k - 1, by omega⟩
  rw [e17 hk, Option.bind_some]
  rcases chk_spec r with ⟨h1, h2⟩ | ⟨h1, h2⟩
  · rw [h1]
    simp only [beq_self_eq_true, cond_true, bne_self_eq_false, Bool.false_eq_true, if_false]
    by_cases hl : s.length = r.Points.length
    · have hL := h2.n1
      rw [if_neg (by simp [hl]), if_neg (by simpa using hl)]
      simp only [Option.bind_some, outK_inr]
      have := e60L1 (s := s) (by omega) s.length k 0 (by omega) (by omega)
      rw [show ((0 : Int), (0 : Int)) = ((0 : Int), ((0 : Nat) : Int)) from rfl, this]
      rfl
    · rw [if_pos (by simp; omega), if_pos hl]
      simp only [Option.bind_some, outK_inr]
      rw [F60L1, if_neg (by simp)]
      rfl
  · have e : ((chk r).2.2 == 0) = false := by simpa using h1
    rw [e]
    simp only [cond_false, Bool.false_eq_true, if_false, Option.bind_some, outK_inr]
    rw [F60L1, if_neg (by simp [e]), if_pos (by simpa using h1)]
    rfl

/-- Why a surface is not good at a point. -/
def whyAt (r : R) (s : List Int) (i : Nat) : Int :=
  if s[i]! < r.Points[i]!.Lo then 1 else if s[i]! > r.Points[i]!.Hi then 2 else if 0 < i ∧ ¬ (s[i]! - r.Steep ≤ s[i - 1]! ∧ s[i - 1]! ≤ s[i]! + r.Steep) then 3 else 0
def firstW (r : R) (s : List Int) : Nat → Nat → Option (Nat × Int)
  | 0, _ => none
  | m + 1, i => if whyAt r s i ≠ 0 then some (i, whyAt r s i) else firstW r s m (i + 1)
theorem GoodS.pt {r : R} {s : List Int} (h : GoodS r s) {i : Nat} (hi : i < s.length) : (0 ≤ r.Points[i]!.Board ∧ r.Points[i]!.Board ≤ 9000) ∧ (0 ≤ r.Points[i]!.Lo ∧ r.Points[i]!.Lo ≤ 9000) ∧ (0 ≤ r.Points[i]!.Hi ∧ r.Points[i]!.Hi ≤ 9000) := by
  have hi' : i < r.Points.length := by have := h.len; omega
  have := h.good.pt r.Points[i]! (by rw [getElem!_pos r.Points i hi']; exact List.getElem_mem _)
  omega
theorem e26L1 {k : Nat} (hk : 20 ≤ k) {r : R} {s : List Int} (h : GoodS r s) : ∀ (m n i : Nat), m < n → i + m = s.length → F26L1 k r s (⟨r⟩, 0) n i = some (match firstW r s m i with | some (i, w) => .inl ((i : Int), w, (0 : Int)) | none => .inr ()) := by
  have hlen := h.len
  have hL := h.good.n1
  have hs0 := h.good.s0
  have hs1 := h.good.s1
  intro m
  induction m with
  | zero =>
    intro n i hn hi
    obtain ⟨n, rfl⟩ : ∃ j, n = j + 1 := ⟨n - 1, by omega⟩
    rw [F26L1, if_neg (by simp; omega)]; rfl
  | succ m ih =>
    intro n i hn hi
    obtain ⟨n, rfl⟩ : ∃ j, n = j + 1 := ⟨n - 1, by omega⟩
    have hx := h.hgt i (by omega)
    rw [F26L1, if_pos (by simp; omega)]
    simp only
    rw [idx_nat (by omega), Option.bind_some, idx_nat (by omega), Option.bind_some, firstW]
    by_cases h1 : s[i]! < r.Points[i]!.Lo
    · have hw : whyAt r s i = 1 := by unfold whyAt; rw [if_pos h1]
      rw [if_pos (by simpa using h1), hw]; rfl
    · rw [if_neg (by simpa using h1)]
      by_cases h2 : s[i]! > r.Points[i]!.Hi
      · have hw : whyAt r s i = 2 := by unfold whyAt; rw [if_neg h1, if_pos h2]
        rw [if_pos (by simpa using h2), hw]; rfl
      · rw [if_neg (by simpa using h2)]
        by_cases h3 : 0 < i
        · have e : decide ((i : Int) > 0) = true := by simp; omega
          rw [e, w64_pred h3 (by omega)]
          simp only [optG_true, cond_true]
          rw [idx_nat (by omega), Option.bind_some, w64_id (n := s[i]! - r.Steep) (by omega) (by omega), w64_id (n := s[i]! + r.Steep) (by omega) (by omega), out1 hk, Option.bind_some]
          by_cases h4 : s[i]! - r.Steep ≤ s[i - 1]! ∧ s[i - 1]! ≤ s[i]! + r.Steep
          · have hw : whyAt r s i = 0 := by unfold whyAt; rw [if_neg h1, if_neg h2, if_neg (fun h => h.2 h4)]
            have e2 : (decide (s[i]! - r.Steep ≤ s[i - 1]!) && decide (s[i - 1]! ≤ s[i]! + r.Steep)) = true := by simp only [Bool.and_eq_true, decide_eq_true_eq]; exact h4
            rw [e2, if_neg (by simp), hw, if_neg (by simp), w64_nat (by omega)]
            exact ih n (i + 1) (by omega) (by omega)
          · have hw : whyAt r s i = 3 := by unfold whyAt; rw [if_neg h1, if_neg h2, if_pos ⟨h3, h4⟩]
            have e2 : (decide (s[i]! - r.Steep ≤ s[i - 1]!) && decide (s[i - 1]! ≤ s[i]! + r.Steep)) = false := by
              cases hd : (decide (s[i]! - r.Steep ≤ s[i - 1]!) && decide (s[i - 1]! ≤ s[i]! + r.Steep)) with
              | false => rfl
              | true => simp only [Bool.and_eq_true, decide_eq_true_eq] at hd; exact absurd hd h4
            rw [e2, if_pos (by simp), hw, if_pos (by simp)]
        · have hw : whyAt r s i = 0 := by unfold whyAt; rw [if_neg h1, if_neg h2, if_neg (fun h => h3 h.1)]
          have e : decide ((i : Int) > 0) = false := by simp; omega
          rw [e]
          simp only [optG_false, cond_false, Option.bind_some, Bool.false_eq_true, if_false]
          rw [hw, if_neg (by simp), w64_nat (by omega)]
          exact ih n (i + 1) (by omega) (by omega)
theorem e77 {r : R} {s : List Int} (h : GoodS r s) {i : Nat} (hi : i < s.length) : F77 r (s.take i) s[i]! = some (whyAt r s i) := by
  have hlen := h.len
  have hL := h.good.n1
  have hs0 := h.good.s0
  have hs1 := h.good.s1
  have hx := h.hgt i (by omega)
  have ht : (s.take i).length = i := by simp; omega
  unfold F77
  rw [ht, idx_nat (by omega), Option.bind_some, Option.bind_some, whyAt]
  by_cases h1 : s[i]! < r.Points[i]!.Lo
  · rw [if_pos (by simpa using h1), if_pos h1]
  · rw [if_neg (by simpa using h1), if_neg h1]
    by_cases h2 : s[i]! > r.Points[i]!.Hi
    · rw [if_pos (by simpa using h2), if_pos h2]
    · rw [if_neg (by simpa using h2), if_neg h2]
      by_cases h3 : 0 < i
      · have e : decide ((i : Int) > 0) = true := by simp; omega
        have hy := h.hgt (i - 1) (by omega)
        rw [e, w64_pred h3 (by omega)]
        simp only [optG_true, cond_true, Bool.true_and]
        rw [idx_nat (by omega), take_get _ (by omega)]
        simp only [Option.bind_some]
        rw [w64_id (n := s[i]! - s[i - 1]!) (by omega) (by omega)]
        by_cases h4 : s[i]! - s[i - 1]! > r.Steep
        · have e2 : decide (s[i]! - s[i - 1]! > r.Steep) = true := by simpa using h4
          rw [e2]
          simp only [Bool.not_true, optG_false, Option.bind_some, cond_true, if_true]
          rw [if_pos ⟨h3, by omega⟩]
        · have e2 : decide (s[i]! - s[i - 1]! > r.Steep) = false := by simpa using h4
          rw [e2]
          simp only [Bool.not_false, optG_true, Option.bind_some, cond_false]
          rw [w64_id (n := s[i - 1]! - s[i]!) (by omega) (by omega)]
          by_cases h5 : s[i - 1]! - s[i]! > r.Steep
          · rw [if_pos (by simpa using h5), if_pos ⟨h3, by omega⟩]
          · rw [if_neg (by simpa using h5), if_neg (by omega)]
      · have e : decide ((i : Int) > 0) = false := by simp; omega
        rw [e]
        simp only [optG_false, cond_false, Option.bind_some, Bool.false_eq_true, if_false, Bool.false_and]
        rw [if_neg (fun h => h3 h.1)]
theorem e61L1 {r : R} {s : List Int} (h : GoodS r s) : ∀ (m n i : Nat), m < n → i + m = s.length → F61L1 r s n i = some (match firstW r s m i with | some (i, w) => .inl ((i : Int), w) | none => .inr ()) := by
  have hlen := h.len
  have hL := h.good.n1
  intro m
  induction m with
  | zero =>
    intro n i hn hi
    obtain ⟨n, rfl⟩ : ∃ j, n = j + 1 := ⟨n - 1, by omega⟩
    rw [F61L1, if_neg (by simp; omega)]; rfl
  | succ m ih =>
    intro n i hn hi
    obtain ⟨n, rfl⟩ : ∃ j, n = j + 1 := ⟨n - 1, by omega⟩
    rw [F61L1, if_pos (by simp; omega), sub_take (by omega) (by omega), Option.bind_some, Int.toNat_natCast, idx_nat (by omega), Option.bind_some, e77 h (by omega), Option.bind_some, firstW]
    by_cases hw : whyAt r s i = 0
    · rw [if_neg (by simpa using hw), if_neg (by simpa using hw), w64_nat (by omega)]
      exact ih n (i + 1) (by omega) (by omega)
    · rw [if_pos (by simpa using hw), if_pos hw]
/-- What First returns. -/
def first (r : R) (s : List Int) : Int × Int := match firstW r s s.length 0 with | some (i, w) => (i, w) | none => (0, 0)
theorem e61 {k : Nat} (hk : 20 ≤ k) {r : R} {s : List Int} (h : GoodS r s) : F61 k r s = some (first r s) := by
  unfold F61 first
  have := e61L1 h s.length k 0 (by have := h.len; have := h.good.n1; omega) (by omega)
  rw [show (0 : Int) = ((0 : Nat) : Int) from rfl, this, Option.bind_some]
  cases firstW r s s.length 0 with
  | none => rfl
  | some q => rfl
theorem e26 {k : Nat} (hk : 20 ≤ k) (r : R) (s : List Int) : F26 k r s = some (if surfE r s != 0 then (0, 0, surfE r s) else ((first r s).1, (first r s).2, 0)) := by
  unfold F26
  obtain ⟨x, h1, h2⟩ := e59 hk r s
  rw [h1, Option.bind_some]
  simp only
  rcases surfE_spec r s with ⟨h3, h4⟩ | ⟨h3, h4⟩
  · rw [h3, h2 h4]
    simp only [bne_self_eq_false, Bool.false_eq_true, if_false]
    have := e26L1 hk h4 s.length k 0 (by have := h4.len; have := h4.good.n1; omega) (by omega)
    rw [show (0 : Int) = ((0 : Nat) : Int) from rfl] at this ⊢
    rw [this, Option.bind_some, first]
    cases firstW r s s.length 0 with
    | none => rfl
    | some q => rfl
  · rw [if_pos (by simpa using h3), if_pos (by simpa using h3)]
theorem e27 {k : Nat} (hk : 20 ≤ k) (r : R) (s : List Int) : F27 k r s = some (if surfE r s != 0 then (0, 0, surfE r s) else ((first r s).1, (first r s).2, 0)) := by
  unfold F27
  rw [e60 hk, Option.bind_some]
  rcases surfE_spec r s with ⟨h3, h4⟩ | ⟨h3, h4⟩
  · rw [h3, if_neg (by simp), if_neg (by simp), e61 hk h4]; rfl
  · rw [if_pos (by simpa using h3), if_pos (by simpa using h3)]

/-- The plaster of a surface. -/
def fills : List P → List Int → Int
  | p :: ps, x :: s => pos (x - p.Board) + fills ps s
  | _, _ => 0
theorem fills_room : ∀ (ps : List P) (s : List Int), (∀ p ∈ ps, 0 ≤ p.Board ∧ p.Board ≤ 9000) → (∀ x ∈ s, 0 ≤ x ∧ x ≤ 9000) → 0 ≤ fills ps s ∧ fills ps s ≤ 9000 * ps.length := by
  intro ps
  induction ps with
  | nil => intro s _ _; simp [fills]
  | cons p ps ih =>
    intro s hp hs
    cases s with
    | nil => simp [fills]; omega
    | cons x s =>
      have := ih s (fun q hq => hp q (by simp [hq])) (fun y hy => hs y (by simp [hy]))
      have h1 := hp p (by simp)
      have h2 := hs x (by simp)
      have h3 := pos_nonneg (x - p.Board)
      have h4 := pos_le (n := x - p.Board) (m := 9000) (by omega) (by omega)
      rw [fills, List.length_cons]
      omega
theorem mem_ok {s : List Int} (h : ∀ i, i < s.length → 0 ≤ s[i]! ∧ s[i]! ≤ 9000) : ∀ x ∈ s, 0 ≤ x ∧ x ≤ 9000 := by
  intro x hx
  obtain ⟨i, hi, rfl⟩ := List.mem_iff_getElem.1 hx
  have := h i hi
  rwa [getElem!_pos s i hi] at this
theorem GoodS.rest {r : R} {s : List Int} (h : GoodS r s) (i : Nat) : 0 ≤ fills (r.Points.drop i) (s.drop i) ∧ fills (r.Points.drop i) (s.drop i) ≤ 90000 := by
  have := fills_room (r.Points.drop i) (s.drop i) (fun p hp => by have := h.good.pt p (List.mem_of_mem_drop hp); omega) (fun x hx => mem_ok h.hgt x (List.mem_of_mem_drop hx))
  have h1 := h.good.n1
  rw [List.length_drop] at this
  omega
theorem e28L1 {r : R} {s : List Int} (h : GoodS r s) : ∀ (m n i : Nat) (a : Int), m < n → i + m = s.length → 0 ≤ a → a ≤ 100000 * i → F28L1 s (⟨r⟩, 0) n (a, i) = some (.inr (a + fills (r.Points.drop i) (s.drop i))) := by
  have hlen := h.len
  have hL := h.good.n1
  intro m
  induction m with
  | zero =>
    intro n i a hn hi h0 h1
    obtain ⟨n, rfl⟩ : ∃ j, n = j + 1 := ⟨n - 1, by omega⟩
    rw [F28L1, if_neg (by simp; omega), List.drop_of_length_le (by omega)]; simp [fills]
  | succ m ih =>
    intro n i a hn hi h0 h1
    obtain ⟨n, rfl⟩ : ∃ j, n = j + 1 := ⟨n - 1, by omega⟩
    have hx := h.hgt i (by omega)
    have hp := h.pt (i := i) (by omega)
    rw [F28L1, if_pos (by simp; omega)]
    simp only
    rw [idx_nat (by omega), Option.bind_some, idx_nat (by omega), Option.bind_some, w64_nat (by omega), w64_id (n := s[i]! - r.Points[i]!.Board) (by omega) (by omega)]
    have h3 := pos_nonneg (s[i]! - r.Points[i]!.Board)
    have h4 := pos_le (n := s[i]! - r.Points[i]!.Board) (m := 9000) (by omega) (by omega)
    change F28L1 s (⟨r⟩, 0) n (w64 (a + pos (s[i]! - r.Points[i]!.Board)), _) = _
    rw [w64_id (by omega) (by omega), ih n (i + 1) (a + pos (s[i]! - r.Points[i]!.Board)) (by omega) (by omega) (by omega) (by omega), drop_bang (l := r.Points) (i := i) (by omega), drop_bang (l := s) (i := i) (by omega), fills]
    congr 2; omega
theorem e43L1 {r : R} {s : List Int} (h : GoodS r s) : ∀ (m n i : Nat) (a : Int), m < n → i + m = s.length → 0 ≤ a → a ≤ 100000 * i → F43L1 r s n (a, i) = some (.inr (a + fills (r.Points.drop i) (s.drop i))) := by
  have hlen := h.len
  have hL := h.good.n1
  intro m
  induction m with
  | zero =>
    intro n i a hn hi h0 h1
    obtain ⟨n, rfl⟩ : ∃ j, n = j + 1 := ⟨n - 1, by omega⟩
    rw [F43L1, if_neg (by simp; omega), List.drop_of_length_le (by omega)]; simp [fills]
  | succ m ih =>
    intro n i a hn hi h0 h1
    obtain ⟨n, rfl⟩ : ∃ j, n = j + 1 := ⟨n - 1, by omega⟩
    have hx := h.hgt i (by omega)
    have hp := h.pt (i := i) (by omega)
    rw [F43L1, if_pos (by simp; omega)]
    simp only
    rw [idx_nat (by omega), Option.bind_some, idx_nat (by omega), Option.bind_some, w64_nat (by omega), w64_id (n := s[i]! - r.Points[i]!.Board) (by omega) (by omega)]
    have h3 := pos_nonneg (s[i]! - r.Points[i]!.Board)
    have h4 := pos_le (n := s[i]! - r.Points[i]!.Board) (m := 9000) (by omega) (by omega)
    change F43L1 r s n (w64 (a + pos (s[i]! - r.Points[i]!.Board)), _) = _
    rw [w64_id (by omega) (by omega), ih n (i + 1) (a + pos (s[i]! - r.Points[i]!.Board)) (by omega) (by omega) (by omega) (by omega), drop_bang (l := r.Points) (i := i) (by omega), drop_bang (l := s) (i := i) (by omega), fills]
    congr 2; omega
theorem e43 {k : Nat} (hk : 20 ≤ k) {r : R} {s : List Int} (h : GoodS r s) : F43 k r s = some (fills r.Points s) := by
  unfold F43
  have := e43L1 h s.length k 0 0 (by have := h.len; have := h.good.n1; omega) (by omega) (by omega) (by omega)
  rw [show ((0 : Nat) : Int) = 0 from rfl] at this
  rw [this, Option.bind_some, outK_inr]
  simp
theorem e28 {k : Nat} (hk : 20 ≤ k) (r : R) (s : List Int) : F28 k r s = some (if surfE r s != 0 then (0, surfE r s) else (fills r.Points s, 0)) := by
  unfold F28
  obtain ⟨x, h1, h2⟩ := e59 hk r s
  rw [h1, Option.bind_some]
  simp only
  rcases surfE_spec r s with ⟨h3, h4⟩ | ⟨h3, h4⟩
  · rw [h3, h2 h4]
    simp only [bne_self_eq_false, Bool.false_eq_true, if_false]
    have := e28L1 h4 s.length k 0 0 (by have := h4.len; have := h4.good.n1; omega) (by omega) (by omega) (by omega)
    rw [show ((0 : Nat) : Int) = 0 from rfl] at this
    rw [this, Option.bind_some, outK_inr]
    simp
  · rw [if_pos (by simpa using h3), if_pos (by simpa using h3)]
theorem e29 {k : Nat} (hk : 20 ≤ k) (r : R) (s : List Int) : F29 k r s = some (if surfE r s != 0 then (0, surfE r s) else (fills r.Points s, 0)) := by
  unfold F29
  rw [e60 hk, Option.bind_some]
  rcases surfE_spec r s with ⟨h3, h4⟩ | ⟨h3, h4⟩
  · rw [h3, if_neg (by simp), if_neg (by simp), e43 hk h4]; rfl
  · rw [if_pos (by simpa using h3), if_pos (by simpa using h3)]
end Go.Proofs.Ytadejgckgnbaoaa
