/- What the functions of chapter 04 come to, in plain words: bounds. -/
import Derived.Test.YtadejgckgnbaoaaPA
namespace Go.Proofs.Ytadejgckgnbaoaa
open Go Go.Sx
set_option linter.all false

abbrev Sp := S_api_Span
/-- How many steps there are from one point to another one. -/
def dist (i k : Nat) : Int := if i ≤ k then (k : Int) - i else (i : Int) - k
/-- By how much two points may differ. -/
def far (S : Int) (i k : Nat) : Int := S * dist i k
theorem dist_nonneg (i k : Nat) : 0 ≤ dist i k := by unfold dist; split <;> omega
theorem far_nonneg {S : Int} (h : 0 ≤ S) (i k : Nat) : 0 ≤ far S i k := Int.mul_nonneg h (dist_nonneg i k)
theorem far_self (S : Int) (i : Nat) : far S i i = 0 := by simp [far, dist]
theorem far_symm (S : Int) (i k : Nat) : far S i k = far S k i := by
  unfold far; congr 1; unfold dist; split <;> split <;> omega
theorem far_tri {S : Int} (h : 0 ≤ S) (i j k : Nat) : far S i k ≤ far S i j + far S j k := by
  unfold far
  rw [← Int.mul_add]
  apply Int.mul_le_mul_of_nonneg_left _ h
  unfold dist; split <;> split <;> split <;> omega
theorem far_succ (S : Int) (i k : Nat) (h : k ≤ i) : far S (i + 1) k = far S i k + S := by
  have : dist (i + 1) k = dist i k + 1 := by unfold dist; split <;> split <;> omega
  rw [far, this, Int.mul_add, Int.mul_one]; rfl
theorem far_pred (S : Int) (i k : Nat) (h : i < k) : far S i k = far S (i + 1) k + S := by
  have : dist i k = dist (i + 1) k + 1 := by unfold dist; split <;> split <;> omega
  rw [far, this, Int.mul_add, Int.mul_one]; rfl
theorem far_le {S : Int} (h : 0 ≤ S) (h1 : S ≤ 9000) {i k : Nat} (hi : i ≤ 10) (hk : k ≤ 10) : far S i k ≤ 90000 := by
  unfold far
  have h2 : dist i k ≤ 10 := by unfold dist; split <;> omega
  calc S * dist i k ≤ S * 10 := Int.mul_le_mul_of_nonneg_left h2 h
    _ ≤ 90000 := by omega

/-- The greatest of some numbers. -/
structure Top (f : Nat → Int) (ks : Nat → Prop) (v : Int) : Prop where
  ub : ∀ k, ks k → f k ≤ v
  is : ∃ k, ks k ∧ v = f k
theorem Top.uniq {f : Nat → Int} {ks : Nat → Prop} {u v : Int} (h : Top f ks u) (h' : Top f ks v) : u = v := by
  obtain ⟨k, h1, h2⟩ := h.is
  obtain ⟨m, h3, h4⟩ := h'.is
  have := h.ub m h3
  have := h'.ub k h1
  omega
theorem Top.imp {f g : Nat → Int} {ks ls : Nat → Prop} {u : Int} (h : Top f ks u) (hk : ∀ k, ks k ↔ ls k) (hf : ∀ k, ks k → f k = g k) : Top g ls u := by
  obtain ⟨k, h1, h2⟩ := h.is
  exact ⟨fun k hk' => by rw [← hf k ((hk k).2 hk')]; exact h.ub k ((hk k).2 hk'), k, (hk k).1 h1, by rw [h2, hf k h1]⟩

/-- One way: what each point lets those behind it be. -/
theorem top_fwd {S : Int} {f : Nat → Int} {i : Nat} {u v : Int} (hu : Top (fun k => f k - far S i k) (· ≤ i) u) (hv : v = f (i + 1)) : Top (fun k => f k - far S (i + 1) k) (· ≤ i + 1) (if u - S > v then u - S else v) := by
  obtain ⟨k, h1, h2⟩ := hu.is
  refine ⟨fun m hm => ?_, ?_⟩
  · by_cases h : m = i + 1
    · subst h; simp only [far_self]; split <;> omega
    · have := hu.ub m (by omega)
      have e := far_succ S i m (by omega)
      try simp only at this ⊢
      split <;> omega
  · by_cases h : u - S > v
    · rw [if_pos h]; exact ⟨k, by omega, by have := far_succ S i k h1; omega⟩
    · rw [if_neg h]; exact ⟨i + 1, Nat.le_refl _, by simp only [far_self]; omega⟩
/-- And back again. -/
theorem top_bwd {S : Int} (hS : 0 ≤ S) {f : Nat → Int} {i n : Nat} (hi : i + 1 < n) {u v : Int} (hu : Top (fun k => f k - far S (i + 1) k) (· < n) u) (hv : Top (fun k => f k - far S i k) (· ≤ i) v) :
    Top (fun k => f k - far S i k) (· < n) (if u - S > v then u - S else v) := by
  obtain ⟨k, h1, h2⟩ := hu.is
  obtain ⟨m, h3, h4⟩ := hv.is
  refine ⟨fun j hj => ?_, ?_⟩
  · by_cases h : j ≤ i
    · have := hv.ub j h
      try simp only at this ⊢
      split <;> omega
    · have := hu.ub j hj
      have e := far_pred S i j (by omega)
      try simp only at this ⊢
      split <;> omega
  · by_cases h : u - S > v
    · rw [if_pos h]
      by_cases hk : k ≤ i
      · exfalso
        have := hv.ub k hk
        have e := far_succ S i k hk
        try simp only at this h2
        omega
      · exact ⟨k, h1, by have := far_pred S i k (by omega); omega⟩
    · rw [if_neg h]; exact ⟨m, by omega, h4⟩

theorem getb_set {α : Type} [Inhabited α] (l : List α) (i j : Nat) (x : α) (h : i < l.length) : (l.set i x)[j]! = if j = i then x else l[j]! := by
  by_cases hj : j = i
  · subst hj; rw [if_pos rfl]; simp [getElem!_def, h]
  · rw [if_neg hj]; simp [getElem!_def, List.getElem?_set_ne (Ne.symm hj)]

theorem e51r {S : Int} {ps : List P} {l : List Sp} {i j : Nat} (hi : i < l.length) (hj : j < l.length) (hij : i ≠ j) (hS : 0 ≤ S ∧ S ≤ 9000) (hl : ∀ m, m < l.length → (-1000000 ≤ l[m]!.Lo ∧ l[m]!.Lo ≤ 1000000) ∧ -1000000 ≤ l[m]!.Hi ∧ l[m]!.Hi ≤ 1000000) :
    F51r i j S ps l = some (l.set j ⟨if l[i]!.Lo - S > l[j]!.Lo then l[i]!.Lo - S else l[j]!.Lo, if l[i]!.Hi + S < l[j]!.Hi then l[i]!.Hi + S else l[j]!.Hi⟩) := by
  have h1 := hl i hi
  have h2 := hl j hj
  unfold F51r
  rw [idx_nat hj, idx_nat hi]
  simp only [Option.bind_some, Int.toNat_natCast]
  rw [w64_id (by omega) (by omega), idx_nat (by simpa using hj), idx_nat (by simpa using hi)]
  simp only [Option.bind_some, getb_set _ _ _ _ hj, if_true, if_neg hij, List.set_set]
  rw [w64_id (by omega) (by omega)]

/-- How high the points are known to be, when the way to the right has come to some point. -/
structure Fwd (S : Int) (ps : List P) (i : Nat) (l : List Sp) : Prop where
  len : l.length = ps.length
  lo : ∀ j, j < i → j < ps.length → Top (fun k => ps[k]!.Lo - far S j k) (· ≤ j) l[j]!.Lo
  hi : ∀ j, j < i → j < ps.length → Top (fun k => -ps[k]!.Hi - far S j k) (· ≤ j) (-l[j]!.Hi)
  lo' : ∀ j, i ≤ j → j < ps.length → l[j]!.Lo = ps[j]!.Lo
  hi' : ∀ j, i ≤ j → j < ps.length → l[j]!.Hi = ps[j]!.Hi
structure Bwd (S : Int) (ps : List P) (i : Nat) (l : List Sp) : Prop where
  len : l.length = ps.length
  lo : ∀ j, j < i → j < ps.length → Top (fun k => ps[k]!.Lo - far S j k) (· ≤ j) l[j]!.Lo
  hi : ∀ j, j < i → j < ps.length → Top (fun k => -ps[k]!.Hi - far S j k) (· ≤ j) (-l[j]!.Hi)
  lo' : ∀ j, i ≤ j → j < ps.length → Top (fun k => ps[k]!.Lo - far S j k) (· < ps.length) l[j]!.Lo
  hi' : ∀ j, i ≤ j → j < ps.length → Top (fun k => -ps[k]!.Hi - far S j k) (· < ps.length) (-l[j]!.Hi)

/-- Points as a row may have them, with a Steep that is asked for. -/
structure Pts (S : Int) (ps : List P) : Prop where
  s0 : 0 ≤ S
  s1 : S ≤ 9000
  n1 : ps.length ≤ 10
  pt : ∀ i, i < ps.length → (0 ≤ ps[i]!.Lo ∧ ps[i]!.Lo ≤ 9000) ∧ (0 ≤ ps[i]!.Hi ∧ ps[i]!.Hi ≤ 9000) ∧ ps[i]!.Lo ≤ ps[i]!.Hi

theorem Top.room {S : Int} {ps : List P} (h : Pts S ps) {f : Nat → Int} (hf : ∀ k, k < ps.length → -9000 ≤ f k ∧ f k ≤ 9000) {j : Nat} (hj : j < ps.length) {ks : Nat → Prop} (hk : ∀ k, ks k → k < ps.length) {v : Int} (ht : Top (fun k => f k - far S j k) ks v) : -1000000 ≤ v ∧ v ≤ 1000000 := by
  obtain ⟨k, h1, h2⟩ := ht.is
  have := hf k (hk k h1)
  have := far_nonneg h.s0 j k
  have := far_le h.s0 h.s1 (i := j) (k := k) (by have := h.n1; omega) (by have := h.n1; have := hk k h1; omega)
  try simp only at h2
  omega
theorem Fwd.room {S : Int} {ps : List P} {i : Nat} {l : List Sp} (h : Fwd S ps i l) (hp : Pts S ps) : ∀ m, m < l.length → (-1000000 ≤ l[m]!.Lo ∧ l[m]!.Lo ≤ 1000000) ∧ -1000000 ≤ l[m]!.Hi ∧ l[m]!.Hi ≤ 1000000 := by
  intro m hm
  rw [h.len] at hm
  by_cases hi : m < i
  · have h1 := Top.room hp (fun k hk => by have := hp.pt k hk; omega) hm (fun k hk => by omega) (h.lo m hi hm)
    have h2 := Top.room hp (fun k hk => by have := hp.pt k hk; omega) hm (fun k hk => by omega) (h.hi m hi hm)
    omega
  · rw [h.lo' m (by omega) hm, h.hi' m (by omega) hm]
    have := hp.pt m hm
    omega
theorem Bwd.room {S : Int} {ps : List P} {i : Nat} {l : List Sp} (h : Bwd S ps i l) (hp : Pts S ps) : ∀ m, m < l.length → (-1000000 ≤ l[m]!.Lo ∧ l[m]!.Lo ≤ 1000000) ∧ -1000000 ≤ l[m]!.Hi ∧ l[m]!.Hi ≤ 1000000 := by
  intro m hm
  rw [h.len] at hm
  by_cases hi : m < i
  · have h1 := Top.room hp (fun k hk => by have := hp.pt k hk; omega) hm (fun k hk => by omega) (h.lo m hi hm)
    have h2 := Top.room hp (fun k hk => by have := hp.pt k hk; omega) hm (fun k hk => by omega) (h.hi m hi hm)
    omega
  · have h1 := Top.room hp (fun k hk => by have := hp.pt k hk; omega) hm (fun k hk => hk) (h.lo' m (by omega) hm)
    have h2 := Top.room hp (fun k hk => by have := hp.pt k hk; omega) hm (fun k hk => hk) (h.hi' m (by omega) hm)
    omega

theorem e80L1 {S : Int} {ps : List P} (hp : Pts S ps) : ∀ (n i : Nat) (l : List Sp), ps.length - i < n → 1 ≤ i → Fwd S ps i l → ∃ l', F80L1 S ps ps n (i, l) = some (.inr l') ∧ Fwd S ps ps.length l' := by
  intro n
  induction n with
  | zero => intro i l h; omega
  | succ n ih =>
    intro i l hn h1 h
    have hL := hp.n1
    rw [F80L1]
    by_cases hi : i < ps.length
    · obtain ⟨i, rfl⟩ : ∃ j, i = j + 1 := ⟨i - 1, by omega⟩
      rw [if_pos (by simp; omega)]
      simp only
      have e1 : w64 (((i + 1 : Nat) : Int) - 1) = (i : Nat) := by rw [w64_id (by omega) (by omega)]; omega
      have e2 : w64 (((i + 1 : Nat) : Int) + 1) = ((i + 2 : Nat) : Int) := by rw [w64_id (by omega) (by omega)]; omega
      have hlen := h.len
      rw [e1, e2, e51r (by omega) (by omega) (by omega) ⟨hp.s0, hp.s1⟩ (h.room hp), Option.bind_some]
      refine ih (i + 2) _ (by omega) (by omega) ⟨by simp [hlen], fun j hj hj' => ?_, fun j hj hj' => ?_, fun j hj hj' => ?_, fun j hj hj' => ?_⟩
      · rw [getb_set _ _ _ _ (by omega)]
        by_cases e : j = i + 1
        · subst e
          rw [if_pos rfl]
          exact top_fwd (h.lo i (by omega) (by omega)) (h.lo' (i + 1) (by omega) (by omega))
        · rw [if_neg e]; exact h.lo j (by omega) hj'
      · rw [getb_set _ _ _ _ (by omega)]
        by_cases e : j = i + 1
        · subst e
          rw [if_pos rfl]
          have := top_fwd (f := fun k => -ps[k]!.Hi) (h.hi i (by omega) (by omega)) (by rw [← h.hi' (i + 1) (by omega) (by omega)])
          have e : (-(if l[i]!.Hi + S < l[i + 1]!.Hi then l[i]!.Hi + S else l[i + 1]!.Hi)) = (if -l[i]!.Hi - S > -l[i + 1]!.Hi then -l[i]!.Hi - S else -l[i + 1]!.Hi) := by
            split <;> split <;> omega
          rw [e]; exact this
        · rw [if_neg e]; exact h.hi j (by omega) hj'
      · rw [getb_set _ _ _ _ (by omega), if_neg (by omega)]; exact h.lo' j (by omega) hj'
      · rw [getb_set _ _ _ _ (by omega), if_neg (by omega)]; exact h.hi' j (by omega) hj'
    · rw [if_neg (by simp; omega)]
      exact ⟨l, rfl, h.len, fun j _ hj => h.lo j (by omega) hj, fun j _ hj => h.hi j (by omega) hj, fun j h1 h2 => by omega, fun j h1 h2 => by omega⟩

theorem e80L2 {S : Int} {ps : List P} (hp : Pts S ps) : ∀ (n i : Nat) (l : List Sp), i < n → i < ps.length → Bwd S ps i l → ∃ l', F80L2 S ps n (i, l) = some (.inr l') ∧ Bwd S ps 0 l' := by
  intro n
  induction n with
  | zero => intro i l h; omega
  | succ n ih =>
    intro i l hn h1 h
    have hL := hp.n1
    rw [F80L2]
    by_cases hi : 0 < i
    · obtain ⟨i, rfl⟩ : ∃ j, i = j + 1 := ⟨i - 1, by omega⟩
      rw [if_pos (by simp)]
      simp only
      have e1 : w64 (((i + 1 : Nat) : Int) - 1) = (i : Nat) := by rw [w64_id (by omega) (by omega)]; omega
      have hlen := h.len
      rw [e1, e51r (by omega) (by omega) (by omega) ⟨hp.s0, hp.s1⟩ (h.room hp), Option.bind_some]
      refine ih i _ (by omega) (by omega) ⟨by simp [hlen], fun j hj hj' => ?_, fun j hj hj' => ?_, fun j hj hj' => ?_, fun j hj hj' => ?_⟩
      · rw [getb_set _ _ _ _ (by omega), if_neg (by omega)]; exact h.lo j (by omega) hj'
      · rw [getb_set _ _ _ _ (by omega), if_neg (by omega)]; exact h.hi j (by omega) hj'
      · rw [getb_set _ _ _ _ (by omega)]
        by_cases e : j = i
        · subst e
          rw [if_pos rfl]
          exact top_bwd hp.s0 (by omega) (h.lo' (j + 1) (by omega) (by omega)) (h.lo j (by omega) (by omega))
        · rw [if_neg e]; exact h.lo' j (by omega) hj'
      · rw [getb_set _ _ _ _ (by omega)]
        by_cases e : j = i
        · subst e
          rw [if_pos rfl]
          have := top_bwd hp.s0 (f := fun k => -ps[k]!.Hi) (by omega) (h.hi' (j + 1) (by omega) (by omega)) (h.hi j (by omega) (by omega))
          have e : (-(if l[j + 1]!.Hi + S < l[j]!.Hi then l[j + 1]!.Hi + S else l[j]!.Hi)) = (if -l[j + 1]!.Hi - S > -l[j]!.Hi then -l[j + 1]!.Hi - S else -l[j]!.Hi) := by
            split <;> split <;> omega
          rw [e]; exact this
        · rw [if_neg e]; exact h.hi' j (by omega) hj'
    · have : i = 0 := by omega
      subst this
      rw [if_neg (by simp)]
      exact ⟨l, rfl, h⟩

theorem e80 {k : Nat} (hk : 20 ≤ k) {S : Int} {ps : List P} (hp : Pts S ps) (h0 : 0 < ps.length) {l : List Sp} (h : Fwd S ps 1 l) : ∃ l', F80 k S ps l S ps = some l' ∧ Bwd S ps 0 l' := by
  have hL := hp.n1
  unfold F80
  obtain ⟨l1, e1, h1⟩ := e80L1 hp k 1 l (by omega) (by omega) h
  rw [show ((1 : Int), l) = (((1 : Nat) : Int), l) from rfl, e1, Option.bind_some, outK_inr]
  have e2 : w64 ((ps.length : Int) - 1) = ((ps.length - 1 : Nat) : Int) := by rw [w64_id (by omega) (by omega)]; omega
  obtain ⟨l2, e3, h2⟩ := e80L2 hp k (ps.length - 1) l1 (by omega) (by omega) ⟨h1.len, fun j hj hj' => h1.lo j hj' hj', fun j hj hj' => h1.hi j hj' hj', fun j hj hj' => (h1.lo j hj' hj').imp (fun m => by omega) (fun m _ => rfl), fun j hj hj' => (h1.hi j hj' hj').imp (fun m => by omega) (fun m _ => rfl)⟩
  rw [e2, e3, Option.bind_some, outK_inr]
  exact ⟨l2, rfl, h2⟩

theorem e81L1 : ∀ (suf pre : List Sp) (n : Nat) (c : Int), c = pre.length → (pre ++ suf).length < 2 ^ 62 → suf.length < n →
    ∃ o, F81L1 (pre ++ suf) n c = some o ∧ ((suf.any (fun s => decide (s.Lo > s.Hi)) = true ∧ ∃ i, o = .inl i ∧ 0 ≤ i) ∨ (suf.any (fun s => decide (s.Lo > s.Hi)) = false ∧ o = .inr ())) := by
  intro suf
  induction suf with
  | nil =>
    intro pre n c hc hl hn
    obtain ⟨n, rfl⟩ : ∃ m, n = m + 1 := ⟨n - 1, by simp at hn; omega⟩
    rw [F81L1, if_neg (by simp; omega)]
    exact ⟨_, rfl, .inr ⟨rfl, rfl⟩⟩
  | cons x suf ih =>
    intro pre n c hc hl hn
    obtain ⟨n, rfl⟩ : ∃ m, n = m + 1 := ⟨n - 1, by simp at hn; omega⟩
    simp only [List.length_append, List.length_cons] at hl hn
    rw [F81L1, if_pos (by simp; omega), idx_mid hc, Option.bind_some, F76, Option.bind_some, List.any_cons]
    cases hb : decide (x.Lo > x.Hi) with
    | true => simp only [if_true]; exact ⟨_, rfl, .inl ⟨rfl, c, rfl, by omega⟩⟩
    | false =>
      simp only [Bool.false_eq_true, if_false, Bool.false_or]
      rw [w64_id (by omega) (by omega)]
      have := ih (pre ++ [x]) n (c + 1) (by simp; omega) (by simp; omega) (by omega)
      simpa using this
theorem e75 {k : Nat} {l : List Sp} (hk : l.length < k) (hl : l.length < 2 ^ 62) : F75 k l = some (l.any fun s => decide (s.Lo > s.Hi)) := by
  unfold F75 F81
  obtain ⟨o, h1, h2⟩ := e81L1 l [] k 0 rfl (by simpa using hl) hk
  rw [List.nil_append] at h1
  rw [h1]
  rcases h2 with ⟨h2, i, rfl, hi⟩ | ⟨h2, rfl⟩
  · simp [outK, h2, hi]
  · simp [outK, h2]

theorem e51L1 {x : S_carve_row} (hL : x.CvRow.Points.length < 2 ^ 62) : ∀ (n i : Nat) (l : List Sp), x.CvRow.Points.length - i < n → i ≤ x.CvRow.Points.length → l.length = x.CvRow.Points.length →
    (∀ j, j < i → l[j]! = ⟨x.CvRow.Points[j]!.Lo, x.CvRow.Points[j]!.Hi⟩) → ∃ l', F51L1 x n (i, l) = some (.inr l') ∧ l'.length = x.CvRow.Points.length ∧ ∀ j, j < x.CvRow.Points.length → l'[j]! = ⟨x.CvRow.Points[j]!.Lo, x.CvRow.Points[j]!.Hi⟩ := by
  intro n
  induction n with
  | zero => intro i l h; omega
  | succ n ih =>
    intro i l hn h1 hlen h
    rw [F51L1]
    by_cases hi : i < x.CvRow.Points.length
    · rw [if_pos (by simp; omega)]
      simp only
      rw [idx_nat hi, Option.bind_some, idx_nat (by omega), Option.bind_some, Int.toNat_natCast]
      have e2 : w64 ((i : Int) + 1) = ((i + 1 : Nat) : Int) := by rw [w64_id (by omega) (by omega)]; omega
      rw [e2]
      refine ih (i + 1) _ (by omega) (by omega) (by simp [hlen]) fun j hj => ?_
      rw [getb_set _ _ _ _ (by omega)]
      by_cases e : j = i
      · rw [if_pos e, e]
      · rw [if_neg e]; exact h j (by omega)
    · rw [if_neg (by simp; omega)]
      exact ⟨l, rfl, hlen, fun j hj => h j (by omega)⟩

/-- Some surface is good: no two points allow none. -/
def Some' (S : Int) (ps : List P) : Prop := ∀ a b, a < ps.length → b < ps.length → ps[a]!.Lo ≤ ps[b]!.Hi + far S a b

theorem e51 {k : Nat} (hk : 20 ≤ k) {S : Int} {ps : List P} (hp : Pts S ps) (h0 : 0 < ps.length) : ∃ l b, F51 k ⟨⟨S, ps⟩⟩ = some (l, b) ∧ Bwd S ps 0 l ∧ (b = true ↔ Some' S ps) := by
  have hL := hp.n1
  unfold F51
  simp only
  rw [need_true (by omega), Option.bind_some]
  obtain ⟨l1, e1, h1, h2⟩ := e51L1 (x := ⟨⟨S, ps⟩⟩) (by simp; omega) k 0 (List.replicate (ps.length : Int).toNat (⟨0, 0⟩ : Sp)) (by simp; omega) (by omega) (by simp) (fun j hj => by omega)
  rw [show ((0 : Int), List.replicate (ps.length : Int).toNat (⟨0, 0⟩ : Sp)) = (((0 : Nat) : Int), List.replicate (ps.length : Int).toNat (⟨0, 0⟩ : Sp)) from rfl, e1, Option.bind_some, outK_inr]
  simp only at h1 h2
  have hf : Fwd S ps 1 l1 := by
    refine ⟨h1, fun j hj hj' => ?_, fun j hj hj' => ?_, fun j _ hj' => by rw [h2 j hj'], fun j _ hj' => by rw [h2 j hj']⟩
    · have : j = 0 := by omega
      subst this
      rw [h2 0 hj']
      exact ⟨fun m hm => by have : m = 0 := by omega
                            subst this; simp [far_self], 0, by omega, by simp [far_self]⟩
    · have : j = 0 := by omega
      subst this
      rw [h2 0 hj']
      exact ⟨fun m hm => by have : m = 0 := by omega
                            subst this; simp [far_self], 0, by omega, by simp [far_self]⟩
  obtain ⟨l2, e2, h3⟩ := e80 hk hp h0 hf
  have hlen := h3.len
  unfold F74v1
  simp only [Option.bind_some]
  rw [e2, Option.bind_some, e75 (by omega) (by omega), Option.bind_some]
  refine ⟨l2, _, rfl, h3, ?_⟩
  simp only [Bool.not_eq_true', List.any_eq_false, decide_eq_true_eq]
  constructor
  · intro h a b ha hb
    have hm : l2[b]! ∈ l2 := by rw [getElem!_pos l2 b (by omega)]; exact List.getElem_mem _
    have := h _ hm
    have h4 := (h3.lo' b (Nat.zero_le _) hb).ub a ha
    have h5 := (h3.hi' b (Nat.zero_le _) hb).ub b hb
    have e := far_symm S a b
    simp only [far_self] at h4 h5
    omega
  · intro h s hs
    obtain ⟨i, hi, rfl⟩ := List.mem_iff_getElem.1 hs
    have e : l2[i] = l2[i]! := (getElem!_pos l2 i hi).symm
    rw [e]
    rw [hlen] at hi
    obtain ⟨a, ha, h4⟩ := (h3.lo' i (Nat.zero_le _) hi).is
    obtain ⟨b, hb, h5⟩ := (h3.hi' i (Nat.zero_le _) hi).is
    have := h a b ha hb
    have := far_tri hp.s0 a i b
    have e := far_symm S a i
    try simp only at h4 h5
    omega
end Go.Proofs.Ytadejgckgnbaoaa
