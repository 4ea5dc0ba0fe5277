/- The legend that leaves the fewest points unsure: what is looked for. -/
import Derived.Test.YtpkhbbboedoldaaPF
namespace Go.Proofs.Ytpkhbbboedoldaa
open Go Go.Sx
set_option linter.all false

def partsB (s : Sp) (n : Int) : Bool := decide (s.Lo < n) && decide (n ≤ s.Hi)
def newP (prev : Option Int) (n : Int) (h : Sp) : Bool := partsB h n && (match prev with | none => true | some p => !partsB h p)
def newN (hs : List Sp) (prev : Option Int) (n : Int) : Int := ((hs.countP (newP prev n) : Nat) : Int)
theorem newN_le (hs : List Sp) (prev : Option Int) (n : Int) : 0 ≤ newN hs prev n ∧ newN hs prev n ≤ hs.length := by
  have := List.countP_le_length (p := newP prev n) (l := hs)
  unfold newN; omega

def pick (acc x : Option (List Int × Int)) : Option (List Int × Int) :=
  match x with
  | none => acc
  | some p => match acc with
    | none => some p
    | some a => if p.2 < a.2 then some p else some a
def optK (f : Int → Option (List Int × Int)) : Nat → Int → Option (List Int × Int) → Option (List Int × Int)
  | 0, _, acc => acc
  | d + 1, i, acc => optK f d (i + 1) (pick acc (f i))
def opt (step : Int) (hs : List Sp) : List Sp → Option Int → Option (List Int × Int)
  | [], _ => some ([], 0)
  | b :: bs, prev => optK (fun n => if early step prev n then none else (opt step hs bs (some n)).map fun r => (n :: r.1, r.2 + newN hs prev n)) (b.Hi - b.Lo + 1).toNat b.Lo none

theorem pick_or (acc x : Option (List Int × Int)) : pick acc x = acc ∨ pick acc x = x := by
  unfold pick
  cases x with
  | none => exact .inl rfl
  | some p => cases acc with
    | none => exact .inr rfl
    | some a => dsimp only; by_cases h : p.2 < a.2
                · rw [if_pos h]; exact .inr rfl
                · rw [if_neg h]; exact .inl rfl
theorem pick_min {acc x : Option (List Int × Int)} {v : Int} (h : (∃ a, acc = some a ∧ a.2 ≤ v) ∨ ∃ p, x = some p ∧ p.2 ≤ v) : ∃ q, pick acc x = some q ∧ q.2 ≤ v := by
  unfold pick
  cases x with
  | none => rcases h with h | ⟨p, h, _⟩
            · exact h
            · cases h
  | some p => cases acc with
    | none => rcases h with ⟨a, h, _⟩ | ⟨q, h1, h2⟩
              · cases h
              · cases h1; exact ⟨p, rfl, h2⟩
    | some a =>
      dsimp only
      by_cases hlt : p.2 < a.2
      · rw [if_pos hlt]
        rcases h with ⟨b, h1, h2⟩ | ⟨q, h1, h2⟩
        · cases h1; exact ⟨p, rfl, by omega⟩
        · cases h1; exact ⟨p, rfl, h2⟩
      · rw [if_neg hlt]
        rcases h with ⟨b, h1, h2⟩ | ⟨q, h1, h2⟩
        · cases h1; exact ⟨a, rfl, h2⟩
        · cases h1; exact ⟨a, rfl, by omega⟩
theorem optK_some {f : Int → Option (List Int × Int)} : ∀ (d : Nat) (i : Int) (acc : Option (List Int × Int)) (x : List Int × Int), optK f d i acc = some x → acc = some x ∨ ∃ j : Nat, j < d ∧ f (i + j) = some x := by
  intro d
  induction d with
  | zero => intro i acc x h; exact .inl h
  | succ d ih =>
    intro i acc x h
    rw [optK] at h
    rcases ih _ _ _ h with h | ⟨j, h1, h2⟩
    · rcases pick_or acc (f i) with e | e
      · exact .inl (e ▸ h)
      · exact .inr ⟨0, by omega, by rw [e] at h; simpa using h⟩
    · exact .inr ⟨j + 1, by omega, by rw [show i + ((j + 1 : Nat) : Int) = i + 1 + j from by omega]; exact h2⟩
theorem optK_min {f : Int → Option (List Int × Int)} : ∀ (d : Nat) (i : Int) (acc : Option (List Int × Int)) (v : Int), ((∃ a, acc = some a ∧ a.2 ≤ v) ∨ ∃ j : Nat, j < d ∧ ∃ p, f (i + j) = some p ∧ p.2 ≤ v) →
    ∃ q, optK f d i acc = some q ∧ q.2 ≤ v := by
  intro d
  induction d with
  | zero =>
    intro i acc v h
    rcases h with h | ⟨j, h, _⟩
    · exact h
    · omega
  | succ d ih =>
    intro i acc v h
    rw [optK]
    refine ih _ _ v ?_
    rcases h with h | ⟨j, h1, p, h2, h3⟩
    · exact .inl (pick_min (.inl h))
    · cases j with
      | zero => exact .inl (pick_min (.inr ⟨p, by simpa using h2, h3⟩))
      | succ j => exact .inr ⟨j, by omega, p, by rwa [show i + ((j + 1 : Nat) : Int) = i + 1 + j from by omega] at h2, h3⟩

/-- Numbers of borders behind a number. -/
def Leg (step : Int) : Option Int → List Sp → List Int → Prop
  | _, [], [] => True
  | prev, b :: bs, n :: ns => (b.Lo ≤ n ∧ n ≤ b.Hi) ∧ early step prev n = false ∧ Leg step (some n) bs ns
  | _, _, _ => False
def cost (hs : List Sp) : Option Int → List Int → Int
  | _, [] => 0
  | prev, n :: ns => cost hs (some n) ns + newN hs prev n
theorem cost_nonneg (hs : List Sp) : ∀ (l : List Int) (prev : Option Int), 0 ≤ cost hs prev l ∧ cost hs prev l ≤ l.length * hs.length := by
  intro l
  induction l with
  | nil => intro prev; simp [cost]
  | cons n ns ih =>
    intro prev
    have := ih (some n)
    have := newN_le hs prev n
    simp only [cost, List.length_cons]
    have e : ((ns.length + 1 : Nat) : Int) * (hs.length : Int) = ns.length * hs.length + hs.length := by
      rw [Int.natCast_add, Int.add_mul]; omega
    omega
theorem Leg.len {step : Int} : ∀ {bs : List Sp} {l : List Int} {prev : Option Int}, Leg step prev bs l → l.length = bs.length := by
  intro bs
  induction bs with
  | nil => intro l prev h; cases l with
    | nil => rfl
    | cons n ns => exact h.elim
  | cons b bs ih => intro l prev h; cases l with
    | nil => exact h.elim
    | cons n ns => simp [ih h.2.2]
theorem opt_some {step : Int} {hs : List Sp} : ∀ {bs : List Sp} {prev : Option Int} {x : List Int × Int}, opt step hs bs prev = some x → Leg step prev bs x.1 ∧ x.2 = cost hs prev x.1 := by
  intro bs
  induction bs with
  | nil => intro prev x h; simp only [opt, Option.some.injEq] at h; subst h; exact ⟨trivial, rfl⟩
  | cons b bs ih =>
    intro prev x h
    rw [opt] at h
    rcases optK_some _ _ _ _ h with h | ⟨j, h1, h2⟩
    · cases h
    · by_cases he : early step prev (b.Lo + j) = true
      · rw [if_pos he] at h2; cases h2
      · rw [if_neg he] at h2
        cases ho : opt step hs bs (some (b.Lo + j)) with
        | none => rw [ho] at h2; cases h2
        | some y =>
          rw [ho] at h2
          simp only [Option.map_some, Option.some.injEq] at h2
          subst h2
          obtain ⟨h3, h4⟩ := ih ho
          exact ⟨⟨⟨by omega, by omega⟩, by simpa using he, h3⟩, by simp only [cost]; rw [h4]⟩
theorem opt_min {step : Int} {hs : List Sp} : ∀ {bs : List Sp} {prev : Option Int} {l : List Int}, Leg step prev bs l → ∃ x, opt step hs bs prev = some x ∧ x.2 ≤ cost hs prev l := by
  intro bs
  induction bs with
  | nil => intro prev l h; cases l with
    | nil => exact ⟨([], 0), rfl, by simp [cost]⟩
    | cons n ns => exact h.elim
  | cons b bs ih =>
    intro prev l h
    cases l with
    | nil => exact h.elim
    | cons n ns =>
      obtain ⟨h1, h2, h3⟩ := h
      obtain ⟨y, h4, h5⟩ := ih h3
      rw [opt]
      refine optK_min _ _ _ _ (.inr ⟨(n - b.Lo).toNat, by omega, (n :: y.1, y.2 + newN hs prev n), ?_, ?_⟩)
      · rw [show b.Lo + ((n - b.Lo).toNat : Int) = n from by omega, if_neg (by simp [h2]), h4]; rfl
      · simp only [cost]; omega
theorem opt_tail {step : Int} {hs : List Sp} {b : Sp} {bs : List Sp} {prev : Option Int} {n : Int} {r : List Int} {c : Int} (h : opt step hs (b :: bs) prev = some (n :: r, c)) : ∃ c', opt step hs bs (some n) = some (r, c') := by
  rw [opt] at h
  rcases optK_some _ _ _ _ h with h | ⟨j, h1, h2⟩
  · cases h
  · by_cases he : early step prev (b.Lo + j) = true
    · rw [if_pos he] at h2; cases h2
    · rw [if_neg he] at h2
      cases ho : opt step hs bs (some (b.Lo + j)) with
      | none => rw [ho] at h2; cases h2
      | some y =>
        rw [ho] at h2
        simp only [Option.map_some, Option.some.injEq, Prod.mk.injEq, List.cons.injEq] at h2
        obtain ⟨⟨h3, h4⟩, _⟩ := h2
        exact ⟨y.2, by rw [← h3, ho, ← h4]⟩
def best (m : Mp) : List Int × Int × Int :=
  if (chk m).2.2 = 0 then (match opt m.Step m.Heights m.Borders none with | none => ([], 0, 9) | some x => (x.1, x.2, 0)) else ([], 0, (chk m).2.2)
end Go.Proofs.Ytpkhbbboedoldaa
