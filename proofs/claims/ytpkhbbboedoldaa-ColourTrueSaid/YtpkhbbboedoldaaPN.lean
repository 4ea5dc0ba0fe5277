/- What the functions of chapter 09 come to, in plain words: Meets; the law Bands. -/
import Derived.Test.YtpkhbbboedoldaaPM
namespace Go.Proofs.Ytpkhbbboedoldaa
open Go Go.Sx
set_option linter.all false

theorem rowM_congr {P Q : Int → Bool} {a : Int} : ∀ (n : Nat) (b : Int), (∀ i : Nat, i < n → P (b + i) = Q (b + i)) → rowM P a n b = rowM Q a n b := by
  intro n
  induction n with
  | zero => intro b _; rfl
  | succ n ih =>
    intro b h
    have h0 := h 0 (by omega)
    simp only [Int.natCast_zero, Int.add_zero] at h0
    simp only [rowM, h0]
    rw [ih (b + 1) fun i hi => by have := h (i + 1) (by omega); rw [show b + 1 + (i : Int) = b + ((i + 1 : Nat) : Int) by simp; omega]; exact this]

theorem alls_hi {m : Mp} {l : List Int} (g : GoodM m) (i : Nat) (hi : i < m.Heights.length) : (alls m l)[i]!.Hi ≤ l.length := by
  have e : (alls m l)[i]! = bandS l m.Heights[i]! := by
    rw [getElem!_pos _ i (by simpa [alls] using hi), getElem!_pos _ i hi]; simp [alls]
  rw [e]
  have := band_le l m.Heights[i]!.Hi
  simp only [bandS]; omega
theorem metB_far {m : Mp} {l : List Int} (g : GoodM m) {a b : Int} (h : (l.length : Int) < a ∨ (l.length : Int) < b) : metB m l a b = false := by
  unfold metB
  rw [List.any_eq_false]
  intro s hs
  have hd := g.sid s hs
  have h1 := alls_hi (l := l) g s.A.toNat (by omega)
  have h2 := alls_hi (l := l) g s.B.toNat (by omega)
  simp only [besideB, okN, Bool.or_eq_true, Bool.and_eq_true, decide_eq_true_eq]
  omega

theorem e27L2 {c7 : Int × List Pr} {x : List Int} (hx : x.length = 6) : ∀ (d n : Nat) (b : Nat) (acc : List Pr), b + d = 6 → d < n → acc.length + d ≤ 100 →
    F27L2 c7 x n ((b : Int), acc) = some (.inr (acc ++ rowM (fun b => decide (c7.1 < b) && decide (0 < x[b.toNat]!)) c7.1 d b)) := by
  intro d
  induction d with
  | zero =>
    intro n b acc hb hn ha
    obtain ⟨n, rfl⟩ : ∃ m, n = m + 1 := ⟨n - 1, by omega⟩
    rw [F27L2, if_neg (by simp; omega)]; simp [rowM]
  | succ d ih =>
    intro n b acc hb hn ha
    obtain ⟨n, rfl⟩ : ∃ m, n = m + 1 := ⟨n - 1, by omega⟩
    rw [F27L2, if_pos (by simp; omega)]
    simp only [rowM]
    rw [need_true (by omega), Option.bind_some]
    simp only [Int.toNat_natCast, Nat.zero_add, Nat.mul_one]
    rw [get_bang (by omega), Option.bind_some, w64_id (by omega) (by omega)]
    have e : (cond (decide (c7.1 < (b : Int))) (decide (x[b]! > 0)) false) = (decide (c7.1 < (b : Int)) && decide (0 < x[b]!)) := by cases decide (c7.1 < (b : Int)) <;> rfl
    rw [e]
    have hb1 : (b : Int) + 1 = ((b + 1 : Nat) : Int) := by simp
    by_cases hq : (decide (c7.1 < (b : Int)) && decide (0 < x[b]!)) = true
    · rw [if_pos hq, if_pos hq, need_true (by simp; omega), Option.bind_some, hb1, ih n (b + 1) _ (by omega) (by omega) (by simp; omega)]
      simp
    · rw [if_neg hq, if_neg hq, hb1, ih n (b + 1) _ (by omega) (by omega) (by omega)]

theorem row_eq {m : Mp} {l v : List Int} (g : GoodM m) (hl : l.length ≤ 5) (hc : ChartOk m l v) {a : Nat} (ha : a < 6) {x : List Int} (hx : ∀ b : Nat, b < 6 → x[b]! = v[a * 6 + b]!) :
    rowM (fun b => decide ((a : Int) < b) && decide (0 < x[b.toNat]!)) a 6 0 = rowM (metB m l a) a (l.length - a) (a + 1) := by
  have h1 : rowM (fun b => decide ((a : Int) < b) && decide (0 < x[b.toNat]!)) a 6 0 = rowM (fun b => decide ((a : Int) < b) && metB m l a b) a 6 0 := by
    refine rowM_congr 6 0 fun i hi => ?_
    simp only [Int.zero_add, Int.toNat_natCast]
    by_cases hai : a < i
    · rw [hx i hi, show decide ((a : Int) < (i : Int)) = true by simpa using hai, Bool.true_and, Bool.true_and, Bool.eq_iff_iff, decide_eq_true_eq]
      exact chart_met hc ha hi (by omega)
    · rw [show decide ((a : Int) < (i : Int)) = false by simpa using hai, Bool.false_and, Bool.false_and]
  rw [h1]
  by_cases hal : a ≤ l.length
  · rw [show 6 = (a + 1) + ((l.length - a) + (5 - l.length)) by omega, rowM_add (a + 1), rowM_add (l.length - a)]
    rw [rowM_none (a + 1) 0 (fun i hi => by rw [show decide ((a : Int) < 0 + (i : Int)) = false by simp; omega, Bool.false_and])]
    rw [rowM_none (5 - l.length) _ (fun i hi => by rw [metB_far g (by right; omega), Bool.and_false])]
    rw [List.nil_append, List.append_nil, show (0 : Int) + ((a + 1 : Nat) : Int) = (a : Int) + 1 by simp]
    exact rowM_congr _ _ fun i hi => by rw [show decide ((a : Int) < (a : Int) + 1 + (i : Int)) = true by simp; omega, Bool.true_and]
  · rw [show l.length - a = 0 by omega, rowM_none 6 0 (fun i hi => by rw [metB_far g (by left; omega), Bool.and_false])]
    rfl
end Go.Proofs.Ytpkhbbboedoldaa
