/- The painting of the search is a painting, with the fewest different inks; no side is mistaken just if inks are a painting. -/
import Derived.Test.YtpkhbbboedoldaaPP
namespace Go.Proofs.Ytpkhbbboedoldaa
open Go Go.Sx
set_option linter.all false

def InB (m : Mp) (x : List Int) : Prop := ∀ e ∈ x, 0 ≤ e ∧ e < m.Inks
theorem InB.snoc {m : Mp} {x : List Int} (h : InB m x) {i : Int} (hi : 0 ≤ i ∧ i < m.Inks) : InB m (x ++ [i]) := by
  intro e he
  rcases List.mem_append.1 he with h1 | h1
  · exact h e h1
  · rw [List.mem_singleton] at h1; rw [h1]; exact hi
theorem srch_sound {m : Mp} {l : List Int} : ∀ (n : Nat) (pre : List Int), pre.length + n = l.length + 1 → pnt m l pre = true → InB m pre →
    srch (fine m l) m.Inks.toNat n pre = [] ∨ (pnt m l (srch (fine m l) m.Inks.toNat n pre) = true ∧ InB m (srch (fine m l) m.Inks.toNat n pre) ∧ (srch (fine m l) m.Inks.toNat n pre).length = l.length + 1) := by
  intro n
  induction n with
  | zero => intro pre hl hp hb; exact .inr ⟨hp, hb, hl⟩
  | succ n ih =>
    intro pre hl hp hb
    rw [srch]
    refine srchK_ind (P := fun x => x = [] ∨ (pnt m l x = true ∧ InB m x ∧ x.length = l.length + 1)) (fun a b ha hb => (mrg_or a b).elim (fun h => by rw [h]; exact ha) (fun h => by rw [h]; exact hb)) _ 0 [] (.inl rfl) fun j hj => ?_
    by_cases h : fine m l pre (0 + j) = true
    · rw [if_pos h]
      exact ih (pre ++ [0 + (j : Int)]) (by simp; omega) (by rw [pnt_snoc (by omega) hp]; exact h) (hb.snoc (by omega))
    · rw [if_neg h]; exact .inl rfl

theorem mrg_least {a b : List Int} {v : Nat} (h : (a ≠ [] ∧ cnt a ≤ v) ∨ (b ≠ [] ∧ cnt b ≤ v)) : mrg a b ≠ [] ∧ cnt (mrg a b) ≤ v := by
  unfold mrg
  by_cases h1 : b = []
  · rw [if_pos h1]; exact h.resolve_right fun h2 => h2.1 h1
  · rw [if_neg h1]
    by_cases h2 : a = []
    · rw [if_pos h2]; exact h.resolve_left fun h3 => h3.1 h2
    · rw [if_neg h2]
      by_cases h3 : cnt b < cnt a
      · rw [if_pos h3]; exact ⟨h1, by rcases h with h | h <;> omega⟩
      · rw [if_neg h3]; exact ⟨h2, by rcases h with h | h <;> omega⟩
theorem srchK_least {f : Int → List Int} {v : Nat} : ∀ (d : Nat) (i : Int) (acc : List Int), ((acc ≠ [] ∧ cnt acc ≤ v) ∨ ∃ j : Nat, j < d ∧ f (i + j) ≠ [] ∧ cnt (f (i + j)) ≤ v) → srchK f d i acc ≠ [] ∧ cnt (srchK f d i acc) ≤ v := by
  intro d
  induction d with
  | zero =>
    intro i acc h
    rcases h with h | ⟨j, h, _⟩
    · exact h
    · omega
  | succ d ih =>
    intro i acc h
    rw [srchK]
    refine ih _ _ ?_
    rcases h with h | ⟨j, h1, h2⟩
    · exact .inl (mrg_least (.inl h))
    · cases j with
      | zero => exact .inl (mrg_least (.inr (by simpa using h2)))
      | succ j => exact .inr ⟨j, by omega, by rwa [show i + ((j + 1 : Nat) : Int) = i + 1 + j from by omega] at h2⟩
theorem pnt_pre {m : Mp} {l a b : List Int} (h : pnt m l (a ++ b) = true) : pnt m l a = true := by
  rw [pnt_iff] at h ⊢
  intro p q hpq hq hm hl
  have := h p q hpq hq hm (by simp; omega)
  rwa [getElem!_pos (a ++ b) p (by simp; omega), getElem!_pos (a ++ b) q (by simp; omega), List.getElem_append_left (by omega), List.getElem_append_left hl, ← getElem!_pos a p (by omega), ← getElem!_pos a q hl] at this
theorem srch_least {m : Mp} {l : List Int} : ∀ (n : Nat) (pre x : List Int), pre.length + n = l.length + 1 → x.length = n → pnt m l (pre ++ x) = true → InB m x →
    srch (fine m l) m.Inks.toNat n pre ≠ [] ∧ cnt (srch (fine m l) m.Inks.toNat n pre) ≤ cnt (pre ++ x) := by
  intro n
  induction n with
  | zero =>
    intro pre x hl hx hp hb
    have : x = [] := List.length_eq_zero_iff.1 hx
    subst this
    rw [srch, List.append_nil]
    exact ⟨by intro h; simp [h] at hl, Nat.le_refl _⟩
  | succ n ih =>
    intro pre x hl hx hp hb
    cases x with
    | nil => simp at hx
    | cons i x =>
      have hi := hb i (by simp)
      have e : pre ++ i :: x = (pre ++ [i]) ++ x := by simp
      rw [e] at hp ⊢
      rw [srch]
      refine srchK_least _ _ _ (.inr ⟨i.toNat, by omega, ?_⟩)
      rw [show (0 : Int) + (i.toNat : Int) = i from by omega]
      have hf : fine m l pre i = true := by
        have h1 := pnt_pre hp
        rwa [pnt_snoc (by omega) (pnt_pre h1)] at h1
      rw [if_pos hf]
      exact ih (pre ++ [i]) x (by simp; omega) (by simpa using hx) hp (fun e he => hb e (by simp [he]))

theorem pnt_nil {m : Mp} {l : List Int} : pnt m l [] = true := by rw [pnt_iff]; intro a b _ _ _ h; simp at h
theorem paintS_sound (m : Mp) (l : List Int) : paintS m l = [] ∨ (pnt m l (paintS m l) = true ∧ InB m (paintS m l) ∧ (paintS m l).length = l.length + 1) :=
  srch_sound (l.length + 1) [] (by simp) pnt_nil (fun e he => by cases he)
theorem paintS_least {m : Mp} {l x : List Int} (hx : x.length = l.length + 1) (hp : pnt m l x = true) (hb : InB m x) : paintS m l ≠ [] ∧ cnt (paintS m l) ≤ cnt x :=
  srch_least (l.length + 1) [] x (by simp) hx hp hb

theorem wrongs_nil {p : Pr → Bool} : ∀ (l : List Pr) (i : Int), wrongs p l i = [] ↔ ∀ s ∈ l, p s = false := by
  intro l
  induction l with
  | nil => intro i; simp [wrongs]
  | cons s ss ih =>
    intro i
    rw [wrongs]
    cases h : p s with
    | true => rw [if_pos rfl]; simp [h]
    | false => rw [if_neg (by simp), ih]; simp [h]
theorem pnt_wrong {m : Mp} {l x : List Int} (hx : x.length = l.length + 1) : pnt m l x = true ↔ ∀ s ∈ m.Sides, wrongB m l x s = false := by
  rw [pnt_iff]
  constructor
  · intro h s hs
    rw [← Bool.not_eq_true, wrongB_iff]
    rintro ⟨a, b, h1, h2, h3, h4⟩
    have := h b a h1 (by omega) (by unfold metB; rw [List.any_eq_true]; exact ⟨s, hs, by rw [besideB_comm]; exact h4⟩) h2
    rw [likeB_comm, this] at h3; cases h3
  · intro h a b h1 h2 h3 h4
    unfold metB at h3
    obtain ⟨s, hs, h5⟩ := List.any_eq_true.1 h3
    rw [← Bool.not_eq_true]
    intro h6
    have h7 := h s hs
    rw [← Bool.not_eq_true, wrongB_iff] at h7
    exact h7 ⟨b, a, h1, h4, by rw [likeB_comm]; exact h6, by rw [besideB_comm]; exact h5⟩
theorem mist_nil {m : Mp} {l x : List Int} (hE : inksE m l x = 0) : (mist m l x).1 = [] ↔ pnt m l x = true := by
  rw [mist, if_pos hE, pnt_wrong (inksE_good.1 hE).2.2.1]
  exact wrongs_nil _ _
theorem mem_wrongs {p : Pr → Bool} : ∀ (l : List Pr) (i0 j : Int), j ∈ wrongs p l i0 ↔ ∃ k : Nat, k < l.length ∧ j = i0 + k ∧ p l[k]! = true := by
  intro l
  induction l with
  | nil => intro i0 j; simp [wrongs]
  | cons s ss ih =>
    intro i0 j
    have e : j ∈ wrongs p (s :: ss) i0 ↔ (j = i0 ∧ p s = true) ∨ j ∈ wrongs p ss (i0 + 1) := by
      rw [wrongs]
      cases h : p s with
      | true => rw [if_pos rfl, List.mem_cons]; simp
      | false => rw [if_neg (by simp)]; simp
    rw [e, ih]
    constructor
    · rintro (⟨h1, h2⟩ | ⟨k, h1, h2, h3⟩)
      · exact ⟨0, by simp, by omega, by simpa using h2⟩
      · exact ⟨k + 1, by simpa using h1, by omega, by simpa using h3⟩
    · rintro ⟨k, h1, h2, h3⟩
      cases k with
      | zero => exact .inl ⟨by omega, by simpa using h3⟩
      | succ k => exact .inr ⟨k, by simpa using h1, by omega, by simpa using h3⟩
end Go.Proofs.Ytpkhbbboedoldaa
