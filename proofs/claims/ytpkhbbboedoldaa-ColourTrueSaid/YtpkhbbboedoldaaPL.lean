/- What the functions of chapter 09 come to, in plain words: Meets. -/
import Derived.Test.YtpkhbbboedoldaaPK
namespace Go.Proofs.Ytpkhbbboedoldaa
open Go Go.Sx
set_option linter.all false

/-- Whether the points of a side can be in two bands. -/
def besideB (all : List Sp) (s : Pr) (a b : Int) : Bool :=
  (okN all[s.A.toNat]!.Lo all[s.A.toNat]!.Hi a && okN all[s.B.toNat]!.Lo all[s.B.toNat]!.Hi b) || (okN all[s.A.toNat]!.Lo all[s.A.toNat]!.Hi b && okN all[s.B.toNat]!.Lo all[s.B.toNat]!.Hi a)
theorem meetS_beside {all : List Sp} {s : Pr} {p q : Nat} (h : p ≠ q) : meetS all s p q ↔ besideB all s p q = true := by
  unfold meetS besideB two2 okN
  simp only [Bool.or_eq_true, Bool.and_eq_true, decide_eq_true_eq]
  constructor
  · rintro ⟨a, b, h1, h2, h3, h4, h5, ⟨rfl, rfl⟩ | ⟨rfl, rfl⟩⟩
    · exact .inl ⟨⟨h1, h2⟩, h3, h4⟩
    · exact .inr ⟨⟨h1, h2⟩, h3, h4⟩
  · rintro (⟨⟨h1, h2⟩, h3, h4⟩ | ⟨⟨h1, h2⟩, h3, h4⟩)
    · exact ⟨p, q, h1, h2, h3, h4, h, .inl ⟨rfl, rfl⟩⟩
    · exact ⟨q, p, h1, h2, h3, h4, fun e => h e.symm, .inr ⟨rfl, rfl⟩⟩
/-- Whether two bands meet. -/
def metB (m : Mp) (l : List Int) (a b : Int) : Bool := m.Sides.any fun s => besideB (alls m l) s a b
theorem chart_met {m : Mp} {l v : List Int} (h : ChartOk m l v) {p q : Nat} (hp : p < 6) (hq : q < 6) (hpq : p ≠ q) : 0 < v[p * 6 + q]! ↔ metB m l p q = true := by
  rw [h.pos p q hp hq, metB, List.any_eq_true]
  exact exists_congr fun s => and_congr_right fun _ => meetS_beside hpq

/-- The pairs of one band with those from b on, n of them. -/
def rowM (P : Int → Bool) (a : Int) : Nat → Int → List Pr
  | 0, _ => []
  | n + 1, b => if P b then ⟨a, b⟩ :: rowM P a n (b + 1) else rowM P a n (b + 1)
theorem rowM_len (P : Int → Bool) (a : Int) : ∀ (n : Nat) (b : Int), (rowM P a n b).length ≤ n := by
  intro n
  induction n with
  | zero => intro b; simp [rowM]
  | succ n ih => intro b; simp only [rowM]; have := ih (b + 1); split <;> simp <;> omega
theorem rowM_none {P : Int → Bool} {a : Int} : ∀ (n : Nat) (b : Int), (∀ i : Nat, i < n → P (b + i) = false) → rowM P a n b = [] := by
  intro n
  induction n with
  | zero => intro b _; rfl
  | succ n ih =>
    intro b h
    have h0 := h 0 (by omega)
    simp only [Int.natCast_zero, Int.add_zero] at h0
    simp only [rowM, h0, Bool.false_eq_true, if_false]
    exact ih (b + 1) fun i hi => by have := h (i + 1) (by omega); rw [show b + 1 + (i : Int) = b + ((i + 1 : Nat) : Int) by simp; omega]; exact this
theorem rowM_add {P : Int → Bool} {a : Int} : ∀ (n k : Nat) (b : Int), rowM P a (n + k) b = rowM P a n b ++ rowM P a k (b + n) := by
  intro n
  induction n with
  | zero => intro k b; simp [rowM]
  | succ n ih =>
    intro k b
    rw [show n + 1 + k = (n + k) + 1 by omega]
    simp only [rowM]
    rw [ih k (b + 1), show b + 1 + (n : Int) = b + ((n + 1 : Nat) : Int) by simp; omega]
    split <;> simp

theorem e84 {all : List Sp} {s : Pr} {a b : Int} (hA : 0 ≤ s.A ∧ s.A < all.length) (hB : 0 ≤ s.B ∧ s.B < all.length) : F84 all s a b = some (besideB all s a b) := by
  unfold F84 besideB
  simp only [idx_bang hA.1 hA.2, idx_bang hB.1 hB.2, Option.bind_some, e61]
  cases okN all[s.A.toNat]!.Lo all[s.A.toNat]!.Hi a <;> cases okN all[s.B.toNat]!.Lo all[s.B.toNat]!.Hi b <;> cases okN all[s.A.toNat]!.Lo all[s.A.toNat]!.Hi b <;> cases okN all[s.B.toNat]!.Lo all[s.B.toNat]!.Hi a <;> rfl
end Go.Proofs.Ytpkhbbboedoldaa
