/- Inks by turns. -/
import Derived.Test.YtpkhbbboedoldaaP1
import Derived.Test.YtpkhbbboedoldaaPY
import Derived.Test.YtpkhbbboedoldaaDIK
namespace Go.Proofs.Ytpkhbbboedoldaa
open Go Go.Sx
set_option linter.all false

theorem e50 {k : Nat} (hk : 20 ≤ k) {m : Mp} (g : GoodM m) {x : List Int} (hx : Tn x) : ∃ l, F50 k m x = some l ∧ l.length = m.Borders.length + 1 ∧ InB m l := by
  have hb1 := g.b1
  have hi0 := g.i0
  have hi1 := g.i1
  have key : ∀ (d n c : Nat) (acc : List Int), c + d = m.Borders.length + 1 → d < n → acc.length = c → InB m acc → ∃ l, F50L1 m x n ((c : Int), acc) = some (.inr l) ∧ l.length = m.Borders.length + 1 ∧ InB m l := by
    intro d
    induction d with
    | zero =>
      intro n c acc hc hn ha hb
      obtain ⟨n, rfl⟩ : ∃ m, n = m + 1 := ⟨n - 1, by omega⟩
      rw [F50L1, if_neg (by simp; omega)]
      exact ⟨acc, rfl, by omega, hb⟩
    | succ d ih =>
      intro n c acc hc hn ha hb
      obtain ⟨n, rfl⟩ : ∃ m, n = m + 1 := ⟨n - 1, by omega⟩
      obtain ⟨t, ht, ht0, ht1⟩ := e44 hx (i := (c : Int)) (by omega)
      have hr := tmod_room ht0 (show 0 < m.Inks by omega)
      rw [F50L1, if_pos (by simp; omega)]
      dsimp only
      rw [ht, Option.bind_some, need_true (by omega), Option.bind_some, need_true (by simp; omega), Option.bind_some, w64_id (by omega) (by omega), show (c : Int) + 1 = ((c + 1 : Nat) : Int) from by omega]
      exact ih n (c + 1) _ (by omega) (by omega) (by simp; omega) (hb.snoc hr)
  unfold F50
  obtain ⟨l, h1, h2⟩ := key (m.Borders.length + 1) k 0 [] (by omega) (by omega) rfl (fun e he => by cases he)
  rw [Int.natCast_zero] at h1
  rw [h1, Option.bind_some, outK_inr]
  exact ⟨l, rfl, h2⟩
theorem cnt_pos {x : List Int} (h : x ≠ []) : 1 ≤ cnt x := by
  cases x with
  | nil => exact absurd rfl h
  | cons a as => simp [cnt, cntG]
end Go.Proofs.Ytpkhbbboedoldaa
