/- What the statements of chapter 09 take by turns, and their own band of a height. -/
import Derived.Test.YtpkhbbboedoldaaPB
import Derived.Test.YtpkhbbboedoldaaDLG
import Derived.Test.YtpkhbbboedoldaaDLB
namespace Go.Proofs.Ytpkhbbboedoldaa
open Go Go.Sx
set_option linter.all false

def Tn (x : List Int) : Prop := (∀ n ∈ x, 0 ≤ n ∧ n ≤ 65535) ∧ x.length < 2 ^ 63

theorem e39 {k : Nat} (hk : 20 ≤ k) {m : Mp} : F39 k m = some ((chk m).2.2 == 0) := by
  unfold F39; rw [e18 hk]; rfl
theorem e41 {k : Nat} (hk : 20 ≤ k) {m : Mp} {l : List Int} : F41 k m l = some ((chkLeg m l).2 == 0) := by
  unfold F41; rw [e20 hk]; rfl
theorem e44 {x : List Int} (hx : Tn x) {i : Int} (hi : 0 ≤ i) : ∃ t, F44 x i = some t ∧ 0 ≤ t ∧ t ≤ 65535 := by
  unfold F44
  have hl := hx.2
  by_cases h : x.length = 0
  · rw [if_pos (by simp [h])]; exact ⟨0, rfl, by omega, by omega⟩
  · rw [if_neg (by simpa using h), need_true (by omega), Option.bind_some, Int.tmod_eq_emod_of_nonneg (by omega)]
    have h1 := Int.emod_nonneg i (show (x.length : Int) ≠ 0 by omega)
    have h2 := Int.emod_lt_of_pos i (show 0 < (x.length : Int) by omega)
    rw [idx_bang h1 h2, Option.bind_some]
    have hm := hx.1 x[(i % (x.length : Int)).toNat]! (by rw [getElem!_pos x _ (by omega)]; exact List.getElem_mem _)
    refine ⟨_, rfl, ?_⟩
    rw [show IntKind.i64.wrap x[(i % (x.length : Int)).toNat]! = w64 x[(i % (x.length : Int)).toNat]! from rfl, w64_id (by omega) (by omega)]
    exact hm
theorem tmod_room {a b : Int} (ha : 0 ≤ a) (hb : 0 < b) : 0 ≤ a.tmod b ∧ a.tmod b < b := by
  rw [Int.tmod_eq_emod_of_nonneg ha]
  exact ⟨Int.emod_nonneg a (by omega), Int.emod_lt_of_pos a hb⟩
theorem e43 {s : Sp} (h0 : 0 ≤ s.Lo) (h1 : s.Lo ≤ s.Hi) (h2 : s.Hi ≤ 9000) {n : Int} (hn : 0 ≤ n) : ∃ t, F43 s n = some t ∧ s.Lo ≤ t ∧ t ≤ s.Hi := by
  unfold F43
  rw [w64_id (n := s.Hi - s.Lo) (by omega) (by omega), w64_id (n := s.Hi - s.Lo + 1) (by omega) (by omega), need_true (by omega), Option.bind_some]
  have := tmod_room hn (show 0 < s.Hi - s.Lo + 1 by omega)
  rw [w64_id (by omega) (by omega)]
  exact ⟨_, rfl, by omega, by omega⟩
theorem e40 {k : Nat} (hk : 20 ≤ k) {m : Mp} (g : GoodM m) {x : List Int} (hx : Tn x) : ∃ l, F40 k m x = some l ∧ l.length = m.Borders.length := by
  have hb1 := g.b1
  have hst0 := g.st0
  have hst1 := g.st1
  have key : ∀ (d n c : Nat) (acc : List Int), c + d = m.Borders.length → d < n → acc.length = c → (∀ y ∈ acc, 0 ≤ y ∧ y ≤ 9000) → ∃ l, F40L1 m x n ((c : Int), acc) = some (.inr l) ∧ l.length = m.Borders.length := by
    intro d
    induction d with
    | zero =>
      intro n c acc hc hn ha hb
      obtain ⟨n, rfl⟩ : ∃ m, n = m + 1 := ⟨n - 1, by omega⟩
      rw [F40L1, if_neg (by simp; omega)]
      exact ⟨acc, rfl, by omega⟩
    | succ d ih =>
      intro n c acc hc hn ha hb
      obtain ⟨n, rfl⟩ : ∃ m, n = m + 1 := ⟨n - 1, by omega⟩
      have hcl : c < m.Borders.length := by omega
      have hbb := g.bor m.Borders[c]! (by rw [getElem!_pos m.Borders c hcl]; exact List.getElem_mem _)
      obtain ⟨t, ht, ht0, ht1⟩ := e44 hx (i := (c : Int)) (by omega)
      rw [F40L1, if_pos (by simp; omega)]
      dsimp only
      rw [idx_nat hcl, Option.bind_some, ht]
      have fin : ∀ v : Int, 0 ≤ v → v ≤ 9000 → ∃ l, ((need ((acc.length + ([v] : List Int).length) * 8 ≤ 140737488355328 ∧ acc.length + ([v] : List Int).length ≤ 9223372036854775807)).bind fun _ => F40L1 m x n ((w64 ((c : Int) + 1)), (acc ++ ([v] : List Int)))) = some (.inr l) ∧ l.length = m.Borders.length := by
        intro v hv0 hv1
        rw [need_true (by simp; omega), Option.bind_some, w64_id (by omega) (by omega)]
        obtain ⟨l, h1, h2⟩ := ih n (c + 1) (acc ++ [v]) (by omega) (by omega) (by simp; omega) (by
          intro y hy
          rcases List.mem_append.1 hy with h | h
          · exact hb y h
          · rw [List.mem_singleton] at h; omega)
        exact ⟨l, by rw [show ((c + 1 : Nat) : Int) = (c : Int) + 1 from by omega] at h1; exact h1, h2⟩
      have plain : ∃ l, ((some t).bind fun x13 => (F43 m.Borders[c]! x13).bind fun x14 => (need ((acc.length + ([x14] : List Int).length) * 8 ≤ 140737488355328 ∧ acc.length + ([x14] : List Int).length ≤ 9223372036854775807)).bind fun _ => F40L1 m x n ((w64 ((c : Int) + 1)), (acc ++ ([x14] : List Int)))) = some (.inr l) ∧ l.length = m.Borders.length := by
        obtain ⟨v, hv, hv0, hv1⟩ := e43 hbb.1 hbb.2.1 hbb.2.2.1 ht0
        rw [Option.bind_some, hv, Option.bind_some]
        exact fin v (by omega) (by omega)
      by_cases h0 : c = 0
      · rw [decide_eq_false (by omega), optG_false, Option.bind_some, cond_false, if_neg (by simp)]
        exact plain
      · rw [decide_eq_true (by omega), optG_true, w64_id (by omega) (by omega), idx_bang (by omega) (by omega), Option.bind_some, cond_true, Option.bind_some]
        have hq := hb acc[((c : Int) - 1).toNat]! (by rw [getElem!_pos acc _ (by omega)]; exact List.getElem_mem _)
        rw [w64_id (n := acc[((c : Int) - 1).toNat]! + m.Step) (by omega) (by omega)]
        by_cases hle : acc[((c : Int) - 1).toNat]! + m.Step ≤ m.Borders[c]!.Hi
        · rw [decide_eq_true hle, if_pos rfl]
          obtain ⟨v, hv, hv0, hv1⟩ := e43 (s := ⟨if acc[((c : Int) - 1).toNat]! + m.Step > m.Borders[c]!.Lo then acc[((c : Int) - 1).toNat]! + m.Step else m.Borders[c]!.Lo, m.Borders[c]!.Hi⟩) (n := t) (by dsimp only; split <;> omega) (by dsimp only; split <;> omega) hbb.2.2.1 ht0
          rw [Option.bind_some, hv, Option.bind_some]
          have : 0 ≤ v := by dsimp only at hv0; split at hv0 <;> omega
          dsimp only at hv1
          exact fin v (by omega) (by omega)
        · rw [decide_eq_false hle, if_neg (by simp)]
          exact plain
  unfold F40
  obtain ⟨l, h1, h2⟩ := key m.Borders.length k 0 [] (by omega) (by omega) rfl (by simp)
  rw [Int.natCast_zero] at h1
  rw [h1, Option.bind_some, outK_inr]
  exact ⟨l, rfl, h2⟩
theorem e45 {n : Int} {s : Sp} : F45 n s = some (decide (s.Lo ≤ n) && decide (n ≤ s.Hi)) := by
  unfold F45
  change some (cond (decide (s.Lo ≤ n)) _ _) = _
  cases decide (s.Lo ≤ n) <;> rfl

/-- The numbers that are at most a height are the first ones. -/
theorem e42 {k : Nat} {l : List Int} (hi : Inc l) (hk : l.length < k) (h62 : l.length < 2 ^ 62) {h : Int} : F42 k l h = some (band l h : Int) := by
  have hb := band_le l h
  have key : ∀ (d n c : Nat) , c + d = l.length → d < n → F42L1 l h n ((min c (band l h) : Nat), (c : Int)) = some (.inr (band l h : Int)) := by
    intro d
    induction d with
    | zero =>
      intro n c hc hn
      obtain ⟨n, rfl⟩ : ∃ m, n = m + 1 := ⟨n - 1, by omega⟩
      rw [F42L1, if_neg (by simp; omega)]
      dsimp only
      rw [show min c (band l h) = band l h from by omega]
    | succ d ih =>
      intro n c hc hn
      obtain ⟨n, rfl⟩ : ∃ m, n = m + 1 := ⟨n - 1, by omega⟩
      have hcl : c < l.length := by omega
      rw [F42L1, if_pos (by simp; omega)]
      dsimp only
      rw [idx_nat hcl, Option.bind_some, w64_id (n := (c : Int) + 1) (by omega) (by omega), w64_id (by omega) (by omega)]
      have := ih n (c + 1) (by omega) (by omega)
      by_cases hlt : c < band l h
      · have := band_lt l h c hlt
        rw [if_pos (by rw [decide_eq_true_eq]; exact this)]
        rw [show ((min c (band l h) : Nat) : Int) + 1 = ((min (c + 1) (band l h) : Nat) : Int) from by omega, show (c : Int) + 1 = ((c + 1 : Nat) : Int) from by omega]
        assumption
      · have h1 := band_at l h (by omega)
        have h2 : l[band l h]! ≤ l[c]! := by
          by_cases he : band l h = c
          · rw [he]; omega
          · have := hi (band l h) c (by omega) hcl; omega
        rw [if_neg (by rw [decide_eq_true_eq]; omega), show min c (band l h) = min (c + 1) (band l h) from by omega, show (c : Int) + 1 = ((c + 1 : Nat) : Int) from by omega]
        assumption
  unfold F42
  have := key l.length k 0 (by omega) hk
  rw [Nat.zero_min] at this
  rw [Int.natCast_zero] at this
  rw [this, Option.bind_some, outK_inr]
end Go.Proofs.Ytpkhbbboedoldaa
