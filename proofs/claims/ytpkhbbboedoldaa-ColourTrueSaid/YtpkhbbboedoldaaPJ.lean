/- What the functions of chapter 09 come to, in plain words: the chart. -/
import Derived.Test.YtpkhbbboedoldaaPI
import Derived.Test.YtpkhbbboedoldaaDA
namespace Go.Proofs.Ytpkhbbboedoldaa
open Go Go.Sx
set_option linter.all false

theorem band_mono : ∀ (l : List Int) {a b : Int}, a ≤ b → band l a ≤ band l b := by
  intro l
  induction l with
  | nil => intro a b _; simp [band]
  | cons x xs ih =>
    intro a b h
    simp only [band]
    split
    · rw [if_pos (by omega)]
      have := ih h
      omega
    · omega
theorem alls_ok {m : Mp} {l : List Int} (g : GoodM m) (gl : GoodL m l) : BandsOk (alls m l) := by
  intro i hi
  have hi' : i < m.Heights.length := by simpa [alls] using hi
  have e : (alls m l)[i]! = bandS l m.Heights[i]! := by
    rw [getElem!_pos _ i hi, getElem!_pos _ i hi']; simp [alls]
  have hs := g.hei m.Heights[i]! (by rw [getElem!_pos _ i hi']; exact List.getElem_mem _)
  have h1 := band_mono l hs.2.1
  have h2 := band_le l m.Heights[i]!.Hi
  have := g.b1
  have := gl.len
  rw [e]
  simp only [bandS]
  omega

/-- The numbers of a chart. -/
structure ChartOk (m : Mp) (l : List Int) (v : List Int) : Prop where
  len : v.length = 42
  pos : ∀ p q : Nat, p < 6 → q < 6 → (0 < v[p * 6 + q]! ↔ ∃ s ∈ m.Sides, meetS (alls m l) s p q)
  bit : ∀ p : Nat, p < 6 → ∃ n : Nat, v[36 + p]! = (n : Int) ∧ n < 2 ^ 6 ∧ ∀ q : Nat, n.testBit q = true ↔ likeM m m.Like p q

theorem rep_bang (i : Nat) : (List.replicate 42 (0 : Int))[i]! = 0 := by
  by_cases h : i < 42
  · rw [getElem!_pos _ i (by rw [List.length_replicate]; exact h)]; exact List.getElem_replicate ..
  · rw [getElem!_neg _ i (by rw [List.length_replicate]; exact h)]; rfl

theorem e64_bad {k : Nat} (hk : 20 ≤ k) {m : Mp} {l : List Int} (h : (chkLeg m l).2 ≠ 0) : F64 k m l = some (none, (chkLeg m l).2) := by
  unfold F64
  rw [e19 hk, Option.bind_some, if_pos (by simpa using h)]
theorem e64 {k : Nat} (hk : 20 ≤ k) {m : Mp} {l : List Int} (g : GoodM m) (gl : GoodL m l) : ∃ v, F64 k m l = some (some ⟨m, l, alls m l, v⟩, 0) ∧ ChartOk m l v := by
  have h0 : (chkLeg m l).2 = 0 := chkLeg_good.2 ⟨g, gl⟩
  have hl : l.length ≤ 5 := by have := g.b1; have := gl.len; omega
  unfold F64
  rw [e19 hk, Option.bind_some, if_neg (by simp [h0]), e64L1 hk (gl.inc g) g.h1 hl, Option.bind_some, outK_inr]
  have hv0 : Vv (List.replicate 42 0) 0 (fun _ _ => False) (List.replicate 42 0) := ⟨by simp, fun _ _ => rfl, fun i _ => by rw [rep_bang]; omega, fun p q _ _ => by rw [rep_bang]; simp⟩
  obtain ⟨v1, e1, h1⟩ := e64L2 hk g (l := l) (alls_ok g gl) (by simp [alls]) hv0
  rw [e1, Option.bind_some, outK_inr]
  have hl1 : Lk v1 (fun _ _ => False) v1 := ⟨h1.len, fun _ _ => rfl, fun p hp => ⟨0, by rw [h1.tl _ (by omega), rep_bang]; rfl, by decide, fun q => by simp⟩⟩
  obtain ⟨o, e2, v2, rfl, h2⟩ := e64L3 g hl1 (n := k) (by omega)
  rw [e2, Option.bind_some, outK_inr]
  obtain ⟨v3, e3, h3⟩ := e64L4 g (v1 := v1) m.Like [] k 0 v2 rfl rfl (by have := g.l1; omega) ⟨h2.len, h2.hd, fun p hp => by
    obtain ⟨n, k1, k2, k3⟩ := h2.bit p hp
    exact ⟨n, k1, k2, fun q => (k3 q).trans ⟨.inl, fun h => h.elim id (fun ⟨t, h, _⟩ => by simp at h)⟩⟩⟩
  rw [e3, Option.bind_some, outK_inr]
  exact ⟨v3, rfl, ⟨h3.len, fun p q hp hq => by rw [h3.hd _ (by omega)]; exact h1.pos p q hp hq, h3.bit⟩⟩

/-- Bands and the reference's. -/
theorem e21 {k : Nat} (hk : 20 ≤ k) {m : Mp} {l : List Int} : F21 k m l = some (if (chkLeg m l).2 = 0 then (alls m l, 0) else ([], (chkLeg m l).2)) := by
  unfold F21
  by_cases h : (chkLeg m l).2 = 0
  · obtain ⟨g, gl⟩ := chkLeg_good.1 h
    obtain ⟨v, e, _⟩ := e64 hk g gl
    rw [e, if_pos h]; rfl
  · rw [e64_bad hk h, if_neg h, Option.bind_some, if_pos (by simpa using h)]
end Go.Proofs.Ytpkhbbboedoldaa
