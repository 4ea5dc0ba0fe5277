/- What the functions of chapter 04 come to, in plain words: Bounds, Prevents, Need. -/
import Derived.Test.YtadejgckgnbaoaaPB
namespace Go.Proofs.Ytadejgckgnbaoaa
open Go Go.Sx
set_option linter.all false

theorem w64_nat {i : Nat} (h : i < 2 ^ 62) : w64 ((i : Int) + 1) = ((i + 1 : Nat) : Int) := by rw [w64_id (by omega) (by omega)]; omega
theorem w64_pred {i : Nat} (h0 : 0 < i) (h : i < 2 ^ 62) : w64 ((i : Int) - 1) = ((i - 1 : Nat) : Int) := by rw [w64_id (by omega) (by omega)]; omega

/-- The heights that good surfaces have. -/
structure Bnd (S : Int) (ps : List P) (l : List Sp) : Prop where
  len : l.length = ps.length
  lo : ∀ j, j < ps.length → Top (fun k => ps[k]!.Lo - far S j k) (· < ps.length) l[j]!.Lo
  hi : ∀ j, j < ps.length → Top (fun k => -ps[k]!.Hi - far S j k) (· < ps.length) (-l[j]!.Hi)
theorem getb_ext {α : Type} [Inhabited α] {l m : List α} (h : l.length = m.length) (h' : ∀ i, i < l.length → l[i]! = m[i]!) : l = m := by
  apply List.ext_getElem h
  intro i h1 h2
  have := h' i h1
  rwa [getElem!_pos l i h1, getElem!_pos m i h2] at this
theorem Bnd.uniq {S : Int} {ps : List P} {l m : List Sp} (h : Bnd S ps l) (h' : Bnd S ps m) : l = m := by
  apply getb_ext (h.len.trans h'.len.symm)
  intro i hi
  rw [h.len] at hi
  have h1 := (h.lo i hi).uniq (h'.lo i hi)
  have h2 := (h.hi i hi).uniq (h'.hi i hi)
  cases hl : l[i]! with
  | mk a b =>
    cases hm : m[i]! with
    | mk c d =>
      rw [hl, hm] at h1 h2
      simp only at h1 h2
      have : b = d := by omega
      rw [h1, this]
theorem Bwd.bnd {S : Int} {ps : List P} {l : List Sp} (h : Bwd S ps 0 l) : Bnd S ps l := ⟨h.len, fun j hj => h.lo' j (Nat.zero_le _) hj, fun j hj => h.hi' j (Nat.zero_le _) hj⟩

theorem Good.pts {r : R} (h : Good r) : Pts r.Steep r.Points := by
  refine ⟨h.s0, by have := h.s1; omega, h.n1, fun i hi => ?_⟩
  have := h.pt r.Points[i]! (by rw [getElem!_pos r.Points i hi]; exact List.getElem_mem _)
  omega

/-- What Bounds returns for a row. -/
structure BRes (r : R) (res : List Sp × Int) : Prop where
  bad : ¬ Good r → res = ([], (chk r).2.2)
  down : Good r → ¬ Some' r.Steep r.Points → res = ([], 9)
  ok : Good r → Some' r.Steep r.Points → res.2 = 0 ∧ Bnd r.Steep r.Points res.1
theorem BRes.uniq {r : R} {a b : List Sp × Int} (ha : BRes r a) (hb : BRes r b) : a = b := by
  by_cases hg : Good r
  · by_cases hs : Some' r.Steep r.Points
    · obtain ⟨h1, h2⟩ := ha.ok hg hs
      obtain ⟨h3, h4⟩ := hb.ok hg hs
      exact Prod.ext (h2.uniq h4) (h1.trans h3.symm)
    · rw [ha.down hg hs, hb.down hg hs]
  · rw [ha.bad hg, hb.bad hg]

theorem e18 {k : Nat} (hk : 20 ≤ k) (r : R) : ∃ res, F18 k r = some res ∧ BRes r res := by
  unfold F18
  rw [e16 hk, Option.bind_some]
  by_cases hg : Good r
  · rw [chk_good hg]
    simp only [bne_self_eq_false, Bool.false_eq_true, if_false]
    obtain ⟨l, b, h1, h2, h3⟩ := e51 hk hg.pts (by have := hg.n0; omega)
    have e : (⟨r⟩ : S_carve_row) = ⟨⟨r.Steep, r.Points⟩⟩ := rfl
    rw [e, h1, Option.bind_some]
    cases b with
    | true => exact ⟨_, rfl, fun h => absurd hg h, fun _ h => absurd (h3.1 rfl) h, fun _ _ => ⟨rfl, h2.bnd⟩⟩
    | false => exact ⟨_, rfl, fun h => absurd hg h, fun _ h => rfl, fun _ h => by have := h3.2 h; cases this⟩
  · rw [if_pos (by simpa using chk_bad hg)]
    exact ⟨_, rfl, fun _ => rfl, fun h => absurd h hg, fun h => absurd h hg⟩

theorem e53 {a b : Nat} (ha : a < 2 ^ 62) (hb : b < 2 ^ 62) : F53 a b = some (dist a b) := by
  unfold F53 dist
  rw [w64_id (by omega) (by omega), w64_id (by omega) (by omega)]
  congr 1
  split <;> split <;> omega
/-- Two points allow no surface. -/
def noneB (S : Int) (ps : List P) (a b : Nat) : Bool := decide (ps[a]!.Lo > ps[b]!.Hi + far S a b) || decide (ps[b]!.Lo > ps[a]!.Hi + far S a b)
theorem e55 {r : R} {S : Int} (hp : Pts S r.Points) {a b : Nat} (ha : a < r.Points.length) (hb : b < r.Points.length) : F55 r S a b = some (noneB S r.Points a b) := by
  have hL := hp.n1
  have h1 := hp.pt a ha
  have h2 := hp.pt b hb
  have h3 := far_le hp.s0 hp.s1 (i := a) (k := b) (by omega) (by omega)
  have h4 := far_nonneg hp.s0 a b
  have e : S * dist a b = far S a b := rfl
  unfold F55
  rw [e53 (by omega) (by omega), Option.bind_some, idx_nat ha, idx_nat hb]
  simp only [Option.bind_some]
  rw [e, w64_id (n := far S a b) (by omega) (by omega), w64_id (by omega) (by omega)]
  unfold noneB
  cases hc : decide (r.Points[a]!.Lo > r.Points[b]!.Hi + far S a b) with
  | true => simp [optG]
  | false =>
    simp only [Bool.not_false, optG_true, Option.bind_some, cond_false, Bool.false_or]
    rw [w64_id (by omega) (by omega)]

theorem e52L2 {r : R} {S : Int} (hp : Pts S r.Points) {a : Nat} (ha : a < r.Points.length) : ∀ (n b : Nat), r.Points.length - b < n →
    ∃ o, F52L2 r S a n b = some o ∧ ((o = .inl false ∧ ∃ c, b ≤ c ∧ c < r.Points.length ∧ noneB S r.Points a c = true) ∨ (o = .inr () ∧ ∀ c, b ≤ c → c < r.Points.length → noneB S r.Points a c = false)) := by
  intro n
  induction n with
  | zero => intro b h; omega
  | succ n ih =>
    intro b hn
    have hL := hp.n1
    rw [F52L2]
    by_cases hb : b < r.Points.length
    · rw [if_pos (by simp; omega), e55 hp ha hb, Option.bind_some]
      cases hc : noneB S r.Points a b with
      | true => exact ⟨_, rfl, .inl ⟨rfl, b, Nat.le_refl _, hb, hc⟩⟩
      | false =>
        simp only [Bool.false_eq_true, if_false]
        rw [w64_nat (by omega)]
        obtain ⟨o, h1, h2⟩ := ih (b + 1) (by omega)
        refine ⟨o, h1, ?_⟩
        rcases h2 with ⟨h2, c, h3, h4, h5⟩ | ⟨h2, h3⟩
        · exact .inl ⟨h2, c, by omega, h4, h5⟩
        · refine .inr ⟨h2, fun c h4 h5 => ?_⟩
          by_cases e : c = b
          · rw [e]; exact hc
          · exact h3 c (by omega) h5
    · rw [if_neg (by simp; omega)]
      exact ⟨_, rfl, .inr ⟨rfl, fun c h1 h2 => by omega⟩⟩
theorem e52L1 {k : Nat} (hk : 20 ≤ k) {r : R} {S : Int} (hp : Pts S r.Points) : ∀ (n a : Nat), r.Points.length - a < n →
    ∃ o, F52L1 k r S n a = some o ∧ ((o = .inl false ∧ ∃ b c, a ≤ b ∧ b ≤ c ∧ c < r.Points.length ∧ noneB S r.Points b c = true) ∨ (o = .inr () ∧ ∀ b c, a ≤ b → b ≤ c → c < r.Points.length → noneB S r.Points b c = false)) := by
  intro n
  induction n with
  | zero => intro a h; omega
  | succ n ih =>
    intro a hn
    have hL := hp.n1
    rw [F52L1]
    by_cases ha : a < r.Points.length
    · rw [if_pos (by simp; omega)]
      obtain ⟨o, h1, h2⟩ := e52L2 hp ha k a (by omega)
      rw [h1, Option.bind_some]
      rcases h2 with ⟨rfl, c, h3, h4, h5⟩ | ⟨rfl, h3⟩
      · exact ⟨_, rfl, .inl ⟨rfl, a, c, Nat.le_refl _, h3, h4, h5⟩⟩
      · rw [outK_inr, w64_nat (by omega)]
        obtain ⟨o, h1, h2⟩ := ih (a + 1) (by omega)
        refine ⟨o, h1, ?_⟩
        rcases h2 with ⟨h2, b, c, h4, h5, h6, h7⟩ | ⟨h2, h4⟩
        · exact .inl ⟨h2, b, c, by omega, h5, h6, h7⟩
        · refine .inr ⟨h2, fun b c h5 h6 h7 => ?_⟩
          by_cases e : b = a
          · subst e; exact h3 c h6 h7
          · exact h4 b c (by omega) h6 h7
    · rw [if_neg (by simp; omega)]
      exact ⟨_, rfl, .inr ⟨rfl, fun b c h1 h2 => by omega⟩⟩
theorem noneB_symm (S : Int) (ps : List P) (a b : Nat) : noneB S ps a b = noneB S ps b a := by
  unfold noneB; rw [far_symm S a b, Bool.or_comm]
theorem some'_iff {S : Int} {ps : List P} : Some' S ps ↔ ∀ b c, b ≤ c → c < ps.length → noneB S ps b c = false := by
  constructor
  · intro h b c h1 h2
    have h3 := h b c (by omega) h2
    have h4 := h c b h2 (by omega)
    have e := far_symm S b c
    simp only [noneB, Bool.or_eq_false_iff, decide_eq_false_iff_not]
    omega
  · intro h a b ha hb
    have : noneB S ps a b = false := by
      by_cases e : a ≤ b
      · exact h a b e hb
      · rw [noneB_symm]; exact h b a (by omega) ha
    simp only [noneB, Bool.or_eq_false_iff, decide_eq_false_iff_not] at this
    omega
theorem e52 {k : Nat} (hk : 20 ≤ k) {r : R} {S : Int} (hp : Pts S r.Points) : ∃ b, F52 k r S = some b ∧ (b = true ↔ Some' S r.Points) := by
  have hL := hp.n1
  unfold F52
  obtain ⟨o, h1, h2⟩ := e52L1 hk hp k 0 (by omega)
  rw [show (0 : Int) = ((0 : Nat) : Int) from rfl, h1, Option.bind_some]
  rcases h2 with ⟨rfl, b, c, h3, h4, h5, h6⟩ | ⟨rfl, h3⟩
  · refine ⟨false, rfl, ⟨fun h => (by cases h), fun h => ?_⟩⟩
    rw [some'_iff.1 h b c h4 h5] at h6
    cases h6
  · exact ⟨true, rfl, ⟨fun _ => some'_iff.2 fun b c h4 h5 => h3 b c (Nat.zero_le _) h4 h5, fun _ => rfl⟩⟩

/-- The greatest of those so far, or a first one that is among them later. -/
structure Top1 (f : Nat → Int) (j n : Nat) (v : Int) : Prop where
  ub : ∀ k, k < n → f k ≤ v
  self : f j ≤ v
  is : ∃ k, (k < n ∨ k = j) ∧ v = f k
theorem Top1.step {f : Nat → Int} {j n : Nat} {v : Int} (h : Top1 f j n v) : Top1 f j (n + 1) (if f n > v then f n else v) := by
  refine ⟨fun k hk => ?_, ?_, ?_⟩
  · by_cases e : k = n
    · subst e; split <;> omega
    · have := h.ub k (by omega); split <;> omega
  · have := h.self; split <;> omega
  · obtain ⟨k, h1, h2⟩ := h.is
    by_cases e : f n > v
    · rw [if_pos e]; exact ⟨n, .inl (by omega), rfl⟩
    · rw [if_neg e]; exact ⟨k, h1.imp (by omega) id, h2⟩

theorem e19L2 {r : R} {S : Int} (hS : S = r.Steep) (hp : Pts S r.Points) {j : Nat} (hj : j < r.Points.length) (l : List Sp) : ∀ (n i : Nat) (lo hi : Int), r.Points.length - i < n → i ≤ r.Points.length →
    Top1 (fun k => r.Points[k]!.Lo - far S j k) j i lo → Top1 (fun k => -r.Points[k]!.Hi - far S j k) j i (-hi) →
    ∃ a b : Int, F19L2 r (j, l) n (i, lo, hi) = some (.inr (a, b)) ∧ Top (fun k => r.Points[k]!.Lo - far S j k) (· < r.Points.length) a ∧ Top (fun k => -r.Points[k]!.Hi - far S j k) (· < r.Points.length) (-b) := by
  intro n
  induction n with
  | zero => intro i lo hi h; omega
  | succ n ih =>
    intro i lo hi hn h0 h1 h2
    have hL := hp.n1
    rw [F19L2]
    by_cases hi' : i < r.Points.length
    · rw [if_pos (by simp; omega)]
      simp only
      have h3 := hp.pt i hi'
      have h4 := far_le hp.s0 hp.s1 (i := j) (k := i) (by omega) (by omega)
      have h5 := far_nonneg hp.s0 j i
      have e : r.Steep * dist j i = far S j i := by rw [hS]; rfl
      rw [e53 (by omega) (by omega), Option.bind_some, idx_nat hi', Option.bind_some, Option.bind_some, e, w64_nat (i := i) (by omega), w64_id (n := far S j i) (by omega) (by omega), w64_id (by omega) (by omega), w64_id (by omega) (by omega)]
      refine ih (i + 1) _ _ (by omega) (by omega) h1.step ?_
      have := h2.step
      have e : (-(if r.Points[i]!.Hi + far S j i < hi then r.Points[i]!.Hi + far S j i else hi)) = (if -r.Points[i]!.Hi - far S j i > -hi then -r.Points[i]!.Hi - far S j i else -hi) := by
        split <;> split <;> omega
      rw [e]; exact this
    · rw [if_neg (by simp; omega)]
      have : i = r.Points.length := by omega
      subst this
      refine ⟨lo, hi, rfl, ⟨h1.ub, ?_⟩, ⟨h2.ub, ?_⟩⟩
      · obtain ⟨k, h3, h4⟩ := h1.is
        exact ⟨k, by omega, h4⟩
      · obtain ⟨k, h3, h4⟩ := h2.is
        exact ⟨k, by omega, h4⟩
theorem getb_append {α : Type} [Inhabited α] (l : List α) (x : α) (j : Nat) (h : j ≤ l.length) : (l ++ [x])[j]! = if j = l.length then x else l[j]! := by
  by_cases e : j = l.length
  · subst e; rw [if_pos rfl]; simp [getElem!_def]
  · rw [if_neg e]; simp [getElem!_def, List.getElem?_append_left (show j < l.length by omega)]
theorem e19L1 {k : Nat} (hk : 20 ≤ k) {r : R} (hp : Pts r.Steep r.Points) : ∀ (n i : Nat) (l : List Sp), r.Points.length - i < n → i ≤ r.Points.length → l.length = i →
    (∀ j, j < i → Top (fun k => r.Points[k]!.Lo - far r.Steep j k) (· < r.Points.length) l[j]!.Lo ∧ Top (fun k => -r.Points[k]!.Hi - far r.Steep j k) (· < r.Points.length) (-l[j]!.Hi)) →
    ∃ l', F19L1 k r n (i, l) = some (.inr l') ∧ Bnd r.Steep r.Points l' := by
  intro n
  induction n with
  | zero => intro i l h; omega
  | succ n ih =>
    intro i l hn h0 hl h
    have hL := hp.n1
    rw [F19L1]
    by_cases hi' : i < r.Points.length
    · rw [if_pos (by simp; omega)]
      simp only
      rw [idx_nat hi', Option.bind_some, Option.bind_some]
      obtain ⟨lo, hi, e1, h1, h2⟩ := e19L2 rfl hp hi' l k 0 r.Points[i]!.Lo r.Points[i]!.Hi (by omega) (by omega)
        ⟨fun k hk => by omega, by simp [far_self], i, .inr rfl, by simp [far_self]⟩ ⟨fun k hk => by omega, by simp [far_self], i, .inr rfl, by simp [far_self]⟩
      rw [show ((0 : Int), r.Points[i]!.Lo, r.Points[i]!.Hi) = (((0 : Nat) : Int), r.Points[i]!.Lo, r.Points[i]!.Hi) from rfl, e1, Option.bind_some, outK_inr, need_true (by simp; omega), Option.bind_some, w64_nat (by omega)]
      refine ih (i + 1) _ (by omega) (by omega) (by simp [hl]) fun j hj => ?_
      rw [getb_append _ _ _ (by omega)]
      by_cases e : j = l.length
      · rw [if_pos e, e, hl]; exact ⟨h1, h2⟩
      · rw [if_neg e]; exact h j (by omega)
    · rw [if_neg (by simp; omega)]
      have : i = r.Points.length := by omega
      subst this
      exact ⟨l, rfl, hl, fun j hj => (h j hj).1, fun j hj => (h j hj).2⟩
theorem e19 {k : Nat} (hk : 20 ≤ k) (r : R) : ∃ res, F19 k r = some res ∧ BRes r res := by
  unfold F19
  rw [e17 hk, Option.bind_some]
  by_cases hg : Good r
  · have hL := hg.n1
    rw [chk_good hg]
    simp only [beq_self_eq_true, optG_true, cond_true]
    obtain ⟨b, h1, h2⟩ := e52 hk hg.pts
    rw [h1, Option.bind_some]
    cases b with
    | true =>
      simp only [Bool.not_true, Bool.false_eq_true, if_false, Option.bind_some, outK_inr, bne_self_eq_false]
      obtain ⟨l, e1, h3⟩ := e19L1 hk hg.pts k 0 [] (by omega) (by omega) rfl (fun j hj => by omega)
      rw [show ((0 : Int), ([] : List Sp)) = (((0 : Nat) : Int), ([] : List Sp)) from rfl, e1]
      exact ⟨_, rfl, fun h => absurd hg h, fun _ h => absurd (h2.1 rfl) h, fun _ _ => ⟨rfl, h3⟩⟩
    | false => exact ⟨_, rfl, fun h => absurd hg h, fun _ h => rfl, fun _ h => by have := h2.2 h; cases this⟩
  · have hb := chk_bad hg
    have e : ((chk r).2.2 == 0) = false := by simpa using hb
    rw [e]
    simp only [optG_false, cond_false, Option.bind_some, Bool.false_eq_true, if_false, outK_inr]
    rw [if_pos (by simpa using hb)]
    exact ⟨_, rfl, fun _ => rfl, fun h => absurd h hg, fun h => absurd h hg⟩
end Go.Proofs.Ytadejgckgnbaoaa
