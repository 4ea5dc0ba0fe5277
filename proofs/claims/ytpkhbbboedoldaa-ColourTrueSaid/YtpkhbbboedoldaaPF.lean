/- What the functions of chapter 09 come to, in plain words: all bands. -/
import Derived.Test.YtpkhbbboedoldaaPE
namespace Go.Proofs.Ytpkhbbboedoldaa
open Go Go.Sx
set_option linter.all false

/-- The bands of a span of heights. -/
def bandS (l : List Int) (s : Sp) : Sp := ⟨band l s.Lo, band l s.Hi⟩
def alls (m : Mp) (l : List Int) : List Sp := m.Heights.map (bandS l)

theorem e65 {k : Nat} (hk : 20 ≤ k) {m : Mp} {l : List Int} (hh : m.Heights.length ≤ 8) (hl : l.length ≤ 5) : F65 k m l = some (alls m l) := by
  have key : ∀ (suf pre : List Sp) (n : Nat) (c : Int), m.Heights = pre ++ suf → c = pre.length → suf.length < n → F65L1 k m l n (c, pre.map (bandS l)) = some (.inr (alls m l)) := by
    intro suf
    induction suf with
    | nil =>
      intro pre n c hs hc hn
      obtain ⟨n, rfl⟩ : ∃ m, n = m + 1 := ⟨n - 1, by simp at hn; omega⟩
      rw [F65L1, if_neg (by rw [hs]; simp; omega), alls, hs]; simp
    | cons x suf ih =>
      intro pre n c hs hc hn
      obtain ⟨n, rfl⟩ : ∃ m, n = m + 1 := ⟨n - 1, by simp at hn; omega⟩
      have hlen : m.Heights.length = pre.length + (suf.length + 1) := by rw [hs]; simp
      simp only [List.length_cons] at hn
      have hix : idx m.Heights c = some x := by rw [hs]; exact idx_mid hc
      rw [F65L1, if_pos (by simp; omega)]
      simp only [hix, Option.bind_some]
      rw [e83 (by omega) (by omega), Option.bind_some, e83 (by omega) (by omega), Option.bind_some, need_true (by simp; omega), Option.bind_some, w64_id (by omega) (by omega)]
      have := ih (pre ++ [x]) n (c + 1) (by simp [hs]) (by simp; omega) (by omega)
      rw [List.map_append] at this
      exact this
  unfold F65
  have := key m.Heights [] k 0 rfl rfl (by omega)
  rw [List.map_nil] at this
  rw [this]; rfl

theorem e64L1 {k : Nat} (hk : 20 ≤ k) {m : Mp} {l : List Int} (hi : Inc l) (hh : m.Heights.length ≤ 8) (hl : l.length ≤ 5) : F64L1 k m l k (0, []) = some (.inr (alls m l)) := by
  have key : ∀ (suf pre : List Sp) (n : Nat) (c : Int), m.Heights = pre ++ suf → c = pre.length → suf.length < n → F64L1 k m l n (c, pre.map (bandS l)) = some (.inr (alls m l)) := by
    intro suf
    induction suf with
    | nil =>
      intro pre n c hs hc hn
      obtain ⟨n, rfl⟩ : ∃ m, n = m + 1 := ⟨n - 1, by simp at hn; omega⟩
      rw [F64L1, if_neg (by rw [hs]; simp; omega), alls, hs]; simp
    | cons x suf ih =>
      intro pre n c hs hc hn
      obtain ⟨n, rfl⟩ : ∃ m, n = m + 1 := ⟨n - 1, by simp at hn; omega⟩
      have hlen : m.Heights.length = pre.length + (suf.length + 1) := by rw [hs]; simp
      simp only [List.length_cons] at hn
      have hix : idx m.Heights c = some x := by rw [hs]; exact idx_mid hc
      rw [F64L1, if_pos (by simp; omega)]
      simp only [hix, Option.bind_some]
      rw [e82 hi (by omega) (by omega), Option.bind_some, e82 hi (by omega) (by omega), Option.bind_some, need_true (by simp; omega), Option.bind_some, w64_id (by omega) (by omega)]
      have := ih (pre ++ [x]) n (c + 1) (by simp [hs]) (by simp; omega) (by omega)
      rw [List.map_append] at this
      exact this
  have := key m.Heights [] k 0 rfl rfl (by omega)
  rw [List.map_nil] at this
  exact this

/-- A legend without an error. -/
structure GoodL (m : Mp) (l : List Int) : Prop where
  len : l.length = m.Borders.length
  inb : ∀ i : Nat, i < l.length → m.Borders[i]!.Lo ≤ l[i]! ∧ l[i]! ≤ m.Borders[i]!.Hi
  gap : ∀ i : Nat, i + 1 < l.length → l[i]! + m.Step ≤ l[i + 1]!

theorem legE_good {step : Int} : ∀ (l : List Int) (bs : List Sp) (prev : Option Int) (i : Int), l.length = bs.length →
    ((∃ u, legE step prev l bs i = .inr u) ↔ (∀ j : Nat, j < l.length → bs[j]!.Lo ≤ l[j]! ∧ l[j]! ≤ bs[j]!.Hi) ∧ (∀ j : Nat, j + 1 < l.length → l[j]! + step ≤ l[j + 1]!) ∧ ∀ q, prev = some q → 0 < l.length → q + step ≤ l[0]!) := by
  intro l
  induction l with
  | nil => intro bs prev i _; cases bs <;> simp [legE]
  | cons n ns ih =>
    intro bs prev i hl
    cases bs with
    | nil => simp at hl
    | cons b bs =>
      rw [legE_cons]
      have hl' : ns.length = bs.length := by simpa using hl
      have hr := ih bs (some n) (i + 1) hl'
      cases hx : okN b.Lo b.Hi n with
      | false =>
        simp only [Bool.false_eq_true, if_false, reduceCtorEq, exists_false, false_iff]
        intro h
        have := h.1 0 (by simp)
        simp only [okN, Bool.and_eq_false_iff, decide_eq_false_iff_not] at hx
        simp at this
        omega
      | true =>
        simp only [okN, Bool.and_eq_true, decide_eq_true_eq] at hx
        simp only [if_true]
        have hp : early step prev n = true ↔ ¬ ∀ q, prev = some q → q + step ≤ n := by
          cases prev with
          | none => simp [early]
          | some q => simp [early]
        by_cases hq : ∀ q, prev = some q → q + step ≤ n
        · rw [if_neg (fun h => (hp.1 h) hq), hr]
          constructor
          · rintro ⟨h1, h2, h3⟩
            refine ⟨fun j hj => ?_, fun j hj => ?_, fun q hq' _ => by simpa using hq q hq'⟩
            · cases j with
              | zero => simpa using hx
              | succ j => simpa using h1 j (by simpa using hj)
            · cases j with
              | zero => have := h3 n rfl (by simpa using hj); simpa using this
              | succ j => simpa using h2 j (by simpa using hj)
          · rintro ⟨h1, h2, h3⟩
            refine ⟨fun j hj => by simpa using h1 (j + 1) (by simpa using hj), fun j hj => by simpa using h2 (j + 1) (by simpa using hj), fun q hq' hpos => ?_⟩
            simp at hq'; subst hq'
            simpa using h2 0 (by simpa using hpos)
        · rw [if_pos (hp.2 hq)]
          simp only [reduceCtorEq, exists_false, false_iff]
          intro h
          exact hq fun q hq' => by simpa using h.2.2 q hq' (by simp)

theorem chkLeg_good {m : Mp} {l : List Int} : (chkLeg m l).2 = 0 ↔ GoodM m ∧ GoodL m l := by
  unfold chkLeg
  cases h : (chk m).2.2 != 0 with
  | true =>
    have h1 : (chk m).2.2 ≠ 0 := by simpa using h
    simp only [if_true]
    exact ⟨fun h2 => absurd h2 h1, fun h2 => absurd (chk_good.2 h2.1) h1⟩
  | false =>
    have g : GoodM m := chk_good.1 (by simpa using h)
    simp only [Bool.false_eq_true, if_false]
    by_cases hl : l.length = m.Borders.length
    · rw [if_pos hl]
      have hg := legE_good (step := m.Step) l m.Borders none 0 hl
      constructor
      · intro h2
        refine ⟨g, ?_⟩
        cases hE : legE m.Step none l m.Borders 0 with
        | inr u =>
          obtain ⟨h3, h4, _⟩ := hg.1 ⟨u, hE⟩
          exact ⟨hl, h3, h4⟩
        | inl p =>
          exfalso
          have hne : ∀ (l : List Int) (bs : List Sp) (prev : Option Int) (i : Int) p, legE m.Step prev l bs i = .inl p → p.2 ≠ 0 := by
            intro l
            induction l with
            | nil => intro bs prev i p h; cases bs <;> simp [legE] at h
            | cons n ns ih =>
              intro bs prev i p h
              cases bs with
              | nil => simp [legE] at h
              | cons b bs =>
                rw [legE_cons] at h
                split at h
                · split at h
                  · simp at h; subst h; simp
                  · exact ih _ _ _ _ h
                · simp at h; subst h; simp
          rw [hE] at h2
          exact hne _ _ _ _ _ hE h2
      · rintro ⟨_, gl⟩
        obtain ⟨u, hu⟩ := hg.2 ⟨gl.inb, gl.gap, fun q h => by simp at h⟩
        rw [hu]; rfl
    · rw [if_neg hl]
      exact ⟨fun h => by simp at h, fun h => absurd h.2.len hl⟩

theorem GoodL.inc {m : Mp} {l : List Int} (g : GoodM m) (h : GoodL m l) : Inc l := by
  intro i j hij hj
  induction j with
  | zero => omega
  | succ j ih =>
    have := h.gap j hj
    have := g.st0
    rcases Nat.lt_or_ge i j with h1 | h1
    · have := ih h1 (by omega); omega
    · have : i = j := by omega
      subst this; omega
end Go.Proofs.Ytpkhbbboedoldaa
