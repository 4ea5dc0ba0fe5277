/- What the functions of chapter 09 come to, in plain words: which bands meet, all sides. -/
import Derived.Test.YtpkhbbboedoldaaPG
namespace Go.Proofs.Ytpkhbbboedoldaa
open Go Go.Sx
set_option linter.all false

section
variable {b0 : List Sp} {b1 : Int} {b2 : List Sp} {b3 : List Pr} {b4 : Int} {b5 : List Pr} {b6 : List Int} {a3 : List Sp}

theorem e88L1 {k : Nat} (hk : 10 ≤ k) {v0 v : List Int} {N : Int} {R : Nat → Nat → Prop} (h : Vv v0 N R v) (hN : N ≤ 2 ^ 20) {x1 x2 : Sp} {lo hi lo' hi' : Nat} (h3 : x1.Lo = (lo' : Int)) (h4 : x1.Hi = (hi' : Int)) (h1 : x2.Lo = (lo : Int)) (h2 : x2.Hi = (hi : Int)) (hlh : lo ≤ hi) (hlh' : lo' ≤ hi') (hh : hi < 6) (hh' : hi' < 6) (n : Nat) (hn : 10 ≤ n) :
    Ok (F88L1 k b0 b1 b2 b3 b4 b5 b6 a3 x1 x2 n (0, v)) fun o => ∃ v', o = .inr v' ∧ Vv v0 (N + 36) (fun p q => R p q ∨ ∃ a b, lo' ≤ a ∧ a ≤ hi' ∧ lo ≤ b ∧ b ≤ hi ∧ two2 a b p q) v' := by
  refine ok_loop (f := F88L1 k b0 b1 b2 b3 b4 b5 b6 a3 x1 x2) (fun c => ∃ (y : Nat) (w : List Int), c = ((y : Int), w) ∧ y ≤ hi' + 1 - lo' ∧ Vv v0 (N + 6 * y) (fun p q => R p q ∨ ∃ a b, lo' ≤ a ∧ a < lo' + y ∧ lo ≤ b ∧ b ≤ hi ∧ two2 a b p q) w) (fun c => (6 - c.1).toNat) _ ?_ n (0, v)
    ⟨0, v, rfl, by omega, h.congr (by omega) (fun p q _ _ => ⟨.inl, fun h => h.elim id (fun ⟨a, b, k1, k2, _⟩ => by omega)⟩)⟩ (by simp; omega)
  rintro n _ ⟨y, w, rfl, hy, hw⟩ ih
  rw [F88L1]
  have hM : w64 (w64 (x1.Hi - x1.Lo) + 1) = (hi' : Int) + 1 - lo' := by
    have e : w64 ((hi' : Int) - lo') = (hi' : Int) - lo' := w64_id (by omega) (by omega)
    rw [h3, h4, e, w64_id (by omega) (by omega)]; omega
  rw [hM]
  by_cases hlt : y < hi' + 1 - lo'
  · rw [if_pos (by simp; omega)]
    simp only
    obtain ⟨o, e1, w', rfl, e2⟩ := e88L2 (b0 := b0) (b1 := b1) (b2 := b2) (b3 := b3) (b4 := b4) (b5 := b5) (b6 := b6) (a3 := a3) hw (by omega) (x1 := x1) (x2 := x2) (a := lo' + y) (c4 := ((y : Int), w)) (by simp [h3]) h1 h2 hlh (by omega) hh k hk
    rw [e1, Option.bind_some, outK_inr, w64_id (by omega) (by omega)]
    refine ih _ ⟨y + 1, w', by simp, by omega, e2.congr (by simp; omega) (fun p q _ _ => ?_)⟩ (by simp; omega)
    constructor
    · rintro ((k | ⟨a, b, k1, k2, k3⟩) | ⟨b, k1, k2, k3⟩)
      · exact .inl k
      · exact .inr ⟨a, b, k1, by omega, k3⟩
      · exact .inr ⟨lo' + y, b, by omega, by omega, k1, k2, k3⟩
    · rintro (k | ⟨a, b, k1, k2, k3, k4, k5⟩)
      · exact .inl (.inl k)
      · rcases Nat.lt_or_ge a (lo' + y) with k6 | k6
        · exact .inl (.inr ⟨a, b, k1, k6, k3, k4, k5⟩)
        · have : a = lo' + y := by omega
          subst this
          exact .inr ⟨b, k3, k4, k5⟩
  · rw [if_neg (by simp; omega)]
    refine ok_some.2 ⟨w, rfl, hw.congr (by omega) (fun p q _ _ => ?_)⟩
    have : lo' + y = hi' + 1 := by omega
    rw [this]
    constructor
    · rintro (k | ⟨a, b, k1, k2, k3⟩)
      · exact .inl k
      · exact .inr ⟨a, b, k1, by omega, k3⟩
    · rintro (k | ⟨a, b, k1, k2, k3⟩)
      · exact .inl k
      · exact .inr ⟨a, b, k1, by omega, k3⟩

/-- Two bands in which the points of a side can be, the one in the one, and the other one in the other one. -/
def meetS (all : List Sp) (s : Pr) (p q : Nat) : Prop := ∃ a b : Nat, all[s.A.toNat]!.Lo ≤ a ∧ (a : Int) ≤ all[s.A.toNat]!.Hi ∧ all[s.B.toNat]!.Lo ≤ b ∧ (b : Int) ≤ all[s.B.toNat]!.Hi ∧ two2 a b p q

/-- Spans of bands. -/
def BandsOk (all : List Sp) : Prop := ∀ i : Nat, i < all.length → 0 ≤ all[i]!.Lo ∧ all[i]!.Lo ≤ all[i]!.Hi ∧ all[i]!.Hi ≤ 5

theorem e88 {k : Nat} (hk : 10 ≤ k) {v0 v : List Int} {N : Int} {R : Nat → Nat → Prop} (h : Vv v0 N R v) (hN : N ≤ 2 ^ 20) {all : List Sp} (hall : BandsOk all) {s : Pr} (hA : 0 ≤ s.A ∧ s.A < all.length) (hB : 0 ≤ s.B ∧ s.B < all.length) :
    ∃ v', F88 k b0 b1 b2 b3 b4 b5 b6 v all s.A s.B = some v' ∧ Vv v0 (N + 36) (fun p q => R p q ∨ meetS all s p q) v' := by
  unfold F88
  rw [idx_bang hA.1 hA.2, Option.bind_some, idx_bang hB.1 hB.2, Option.bind_some]
  have g1 := hall s.A.toNat (by omega)
  have g2 := hall s.B.toNat (by omega)
  obtain ⟨o, e1, w', rfl, e2⟩ := e88L1 (b0 := b0) (b1 := b1) (b2 := b2) (b3 := b3) (b4 := b4) (b5 := b5) (b6 := b6) (a3 := all) hk h hN (x1 := all[s.A.toNat]!) (x2 := all[s.B.toNat]!) (lo' := all[s.A.toNat]!.Lo.toNat) (hi' := all[s.A.toNat]!.Hi.toNat) (lo := all[s.B.toNat]!.Lo.toNat) (hi := all[s.B.toNat]!.Hi.toNat)
    (by omega) (by omega) (by omega) (by omega) (by omega) (by omega) (by omega) (by omega) k hk
  rw [e1, Option.bind_some, outK_inr]
  refine ⟨w', rfl, e2.congr (Int.le_refl _) (fun p q _ _ => ?_)⟩
  constructor
  · rintro (k | ⟨a, b, k1, k2, k3, k4, k5⟩)
    · exact .inl k
    · exact .inr ⟨a, b, by omega, by omega, by omega, by omega, k5⟩
  · rintro (k | ⟨a, b, k1, k2, k3, k4, k5⟩)
    · exact .inl k
    · exact .inr ⟨a, b, by omega, by omega, by omega, by omega, k5⟩
end

theorem e64L2 {k : Nat} (hk : 20 ≤ k) {m : Mp} (g : GoodM m) {l : List Int} {all : List Sp} (hall : BandsOk all) (hlen : all.length = m.Heights.length) {v0 : List Int} (h0 : Vv v0 0 (fun _ _ => False) v0) :
    ∃ v', F64L2 k m l all k (0, v0) = some (.inr v') ∧ Vv v0 360 (fun p q => ∃ s ∈ m.Sides, meetS all s p q) v' := by
  have key : ∀ (suf pre : List Pr) (n : Nat) (c : Int) (v : List Int), m.Sides = pre ++ suf → c = pre.length → suf.length < n → Vv v0 (36 * pre.length) (fun p q => ∃ s ∈ pre, meetS all s p q) v →
      ∃ v', F64L2 k m l all n (c, v) = some (.inr v') ∧ Vv v0 360 (fun p q => ∃ s ∈ m.Sides, meetS all s p q) v' := by
    intro suf
    induction suf with
    | nil =>
      intro pre n c v hs hc hn hv
      obtain ⟨n, rfl⟩ : ∃ m, n = m + 1 := ⟨n - 1, by simp at hn; omega⟩
      rw [F64L2, if_neg (by rw [hs]; simp; omega)]
      have e : m.Sides = pre := by simpa using hs
      have := g.s1
      exact ⟨v, rfl, hv.congr (by rw [← e]; omega) (fun p q _ _ => by rw [e])⟩
    | cons s suf ih =>
      intro pre n c v hs hc hn hv
      obtain ⟨n, rfl⟩ : ∃ m, n = m + 1 := ⟨n - 1, by simp at hn; omega⟩
      have hl : m.Sides.length = pre.length + (suf.length + 1) := by rw [hs]; simp
      have := g.s1
      simp only [List.length_cons] at hn
      have hix : idx m.Sides c = some s := by rw [hs]; exact idx_mid hc
      have hsd := g.sid s (by rw [hs]; simp)
      rw [F64L2, if_pos (by simp; omega)]
      simp only [hix, Option.bind_some]
      unfold F72
      simp only [Option.bind_some]
      obtain ⟨w, e1, e2⟩ := e88 (k := k) (b0 := m.Borders) (b1 := m.Step) (b2 := m.Heights) (b3 := m.Sides) (b4 := m.Inks) (b5 := m.Like) (b6 := l) (by omega) hv (by omega) hall (s := s) (by omega) (by omega)
      rw [e1, Option.bind_some, w64_id (by omega) (by omega)]
      refine ih (pre ++ [s]) n (c + 1) w (by simp [hs]) (by simp; omega) (by omega) (e2.congr (by simp; omega) (fun p q _ _ => ?_))
      simp only [List.mem_append, List.mem_singleton]
      constructor
      · rintro (⟨t, h1, h2⟩ | h)
        · exact ⟨t, .inl h1, h2⟩
        · exact ⟨s, .inr rfl, h⟩
      · rintro ⟨t, h1 | rfl, h2⟩
        · exact .inl ⟨t, h1, h2⟩
        · exact .inr h2
  exact key m.Sides [] k 0 v0 rfl rfl (by have := g.s1; omega) (h0.congr (by simp) (fun p q _ _ => by simp))
end Go.Proofs.Ytpkhbbboedoldaa
