/- What the functions of chapter 09 come to, in plain words: which bands meet. -/
import Derived.Test.YtpkhbbboedoldaaPB
import Derived.Test.YtpkhbbboedoldaaDA
import Derived.Test.YtpkhbbboedoldaaDW
import Derived.Test.YtpkhbbboedoldaaDB
namespace Go.Proofs.Ytpkhbbboedoldaa
open Go Go.Sx
set_option linter.all false

theorem get_bang {v : List Int} {i : Nat} (h : i < v.length) : v[i]? = some v[i]! := by
  rw [List.getElem?_eq_getElem h, getElem!_pos v i h]
theorem set_bang {v : List Int} {i : Nat} {x : Int} {k : Nat} (h : i < v.length) : (v.set i x)[k]! = if k = i then x else v[k]! := by
  by_cases hk : k < v.length
  · rw [getElem!_pos (v.set i x) k (by simpa using hk), getElem!_pos v k hk, List.getElem_set]
    by_cases e : i = k
    · simp [e]
    · rw [if_neg e, if_neg (fun h => e h.symm)]
  · rw [if_neg (by omega)]
    rw [getElem!_neg (v.set i x) k (by simpa using hk), getElem!_neg v k hk]

/-- A row of numbers: 36 that count how often bands meet, and 6 behind them. -/
structure Vv (v0 : List Int) (N : Int) (R : Nat → Nat → Prop) (v : List Int) : Prop where
  len : v.length = 42
  tl : ∀ i : Nat, 36 ≤ i → v[i]! = v0[i]!
  bd : ∀ i : Nat, i < 36 → 0 ≤ v[i]! ∧ v[i]! ≤ N
  pos : ∀ p q : Nat, p < 6 → q < 6 → (0 < v[p * 6 + q]! ↔ R p q)
theorem Vv.congr {v0 : List Int} {N N' : Int} {R R' : Nat → Nat → Prop} {v : List Int} (h : Vv v0 N R v) (hN : N ≤ N') (hR : ∀ p q : Nat, p < 6 → q < 6 → (R p q ↔ R' p q)) : Vv v0 N' R' v :=
  ⟨h.len, h.tl, fun i hi => by have := h.bd i hi; omega, fun p q hp hq => (h.pos p q hp hq).trans (hR p q hp hq)⟩

theorem e64r {v0 v : List Int} {N : Int} {R : Nat → Nat → Prop} (h : Vv v0 N R v) (hN : N ≤ 2 ^ 40) {a b : Nat} (ha : a < 6) (hb : b < 6) (hab : a ≠ b) {b0 : List Sp} {b1 : Int} {b2 : List Sp} {b3 : List Pr} {b4 : Int} {b5 : List Pr} {b6 : List Int} {a3 : List Sp} :
    ∃ v', F64r a b b0 b1 b2 b3 b4 b5 b6 v a3 = some v' ∧ Vv v0 (N + 1) (fun p q => R p q ∨ (p = a ∧ q = b) ∨ (p = b ∧ q = a)) v' := by
  have hl := h.len
  have hi : a * 6 + b < v.length := by omega
  have hj : b * 6 + a < v.length := by omega
  have hij : b * 6 + a ≠ a * 6 + b := by omega
  have h1 := h.bd (a * 6 + b) (by omega)
  have h2 := h.bd (b * 6 + a) (by omega)
  refine ⟨(v.set (a * 6 + b) (v[a * 6 + b]! + 1)).set (b * 6 + a) (v[b * 6 + a]! + 1), ?_, ?_⟩
  · unfold F64r
    have e1 : need (0 ≤ (a : Int) ∧ (a : Int) < 6) = some () := need_true (by omega)
    have e2 : need (0 ≤ (b : Int) ∧ (b : Int) < 6) = some () := need_true (by omega)
    have e3 : v[a * 6 + b]? = some v[a * 6 + b]! := get_bang hi
    have e4 : (v.set (a * 6 + b) (v[a * 6 + b]! + 1))[b * 6 + a]? = some v[b * 6 + a]! := by
      rw [get_bang (by simpa using hj), set_bang hi, if_neg hij]
    simp only [e1, e2, Option.bind_some, Int.toNat_natCast, Nat.zero_add, Nat.mul_one, e3]
    rw [w64_id (by omega) (by omega)]
    simp only [e4, Option.bind_some]
    rw [w64_id (by omega) (by omega)]
  · have hg : ∀ k, ((v.set (a * 6 + b) (v[a * 6 + b]! + 1)).set (b * 6 + a) (v[b * 6 + a]! + 1))[k]! = if k = b * 6 + a then v[b * 6 + a]! + 1 else if k = a * 6 + b then v[a * 6 + b]! + 1 else v[k]! := by
      intro k
      rw [set_bang (by simpa using hj)]
      split
      · rfl
      · rw [set_bang hi]
    refine ⟨by simpa using hl, fun i hi' => ?_, fun i hi' => ?_, fun p q hp hq => ?_⟩
    · rw [hg, if_neg (by omega), if_neg (by omega)]; exact h.tl i hi'
    · rw [hg]
      have := h.bd i hi'
      split
      · omega
      · split <;> omega
    · rw [hg]
      have hpq := h.pos p q hp hq
      by_cases k1 : p = b ∧ q = a
      · rw [if_pos (by obtain ⟨rfl, rfl⟩ := k1; rfl)]
        exact ⟨fun _ => .inr (.inr k1), fun _ => by omega⟩
      · rw [if_neg (by omega)]
        by_cases k2 : p = a ∧ q = b
        · rw [if_pos (by obtain ⟨rfl, rfl⟩ := k2; rfl)]
          exact ⟨fun _ => .inr (.inl k2), fun _ => by omega⟩
        · rw [if_neg (by omega), hpq]
          constructor
          · exact .inl
          · rintro (h | h | h)
            · exact h
            · exact absurd h k2
            · exact absurd h k1

section
variable {b0 : List Sp} {b1 : Int} {b2 : List Sp} {b3 : List Pr} {b4 : Int} {b5 : List Pr} {b6 : List Int} {a3 : List Sp}

/-- Two bands that are not the same, the one within x, the other one within y. -/
def two2 (a b p q : Nat) : Prop := a ≠ b ∧ ((p = a ∧ q = b) ∨ (p = b ∧ q = a))

theorem e88L2 {v0 v : List Int} {N : Int} {R : Nat → Nat → Prop} (h : Vv v0 N R v) (hN : N ≤ 2 ^ 30) {x1 x2 : Sp} {a lo hi : Nat} {c4 : Int × List Int} (hx : x1.Lo + c4.1 = (a : Int)) (h1 : x2.Lo = (lo : Int)) (h2 : x2.Hi = (hi : Int)) (hlh : lo ≤ hi) (ha : a < 6) (hh : hi < 6) (n : Nat) (hn : 10 ≤ n) :
    Ok (F88L2 b0 b1 b2 b3 b4 b5 b6 a3 x1 x2 c4 n (0, v)) fun o => ∃ v', o = .inr v' ∧ Vv v0 (N + 6) (fun p q => R p q ∨ ∃ b, lo ≤ b ∧ b ≤ hi ∧ two2 a b p q) v' := by
  refine ok_loop (f := F88L2 b0 b1 b2 b3 b4 b5 b6 a3 x1 x2 c4) (fun c => ∃ (y : Nat) (w : List Int), c = ((y : Int), w) ∧ y ≤ hi + 1 - lo ∧ Vv v0 (N + y) (fun p q => R p q ∨ ∃ b, lo ≤ b ∧ b < lo + y ∧ two2 a b p q) w) (fun c => (6 - c.1).toNat) _ ?_ n (0, v)
    ⟨0, v, rfl, by omega, h.congr (by omega) (fun p q _ _ => ⟨.inl, fun h => h.elim id (fun ⟨b, k1, k2, _⟩ => by omega)⟩)⟩ (by simp; omega)
  rintro n _ ⟨y, w, rfl, hy, hw⟩ ih
  rw [F88L2]
  have hM : w64 (w64 (x2.Hi - x2.Lo) + 1) = (hi : Int) + 1 - lo := by
    have e : w64 ((hi : Int) - lo) = (hi : Int) - lo := w64_id (by omega) (by omega)
    rw [h1, h2, e, w64_id (by omega) (by omega)]; omega
  rw [hM]
  by_cases hlt : y < hi + 1 - lo
  · rw [if_pos (by simp; omega)]
    simp only
    have ea : w64 (x1.Lo + c4.1) = (a : Int) := by rw [hx]; exact w64_id (by omega) (by omega)
    have eb : w64 (x2.Lo + (y : Int)) = ((lo + y : Nat) : Int) := by rw [h1, w64_id (by omega) (by omega)]; simp
    rw [ea, eb]
    by_cases hab : a = lo + y
    · have hne : ((a : Int) != ((lo + y : Nat) : Int)) = false := by rw [hab]; simp
      simp only [hne, optG_false, Option.bind_some, cond_false, Bool.false_eq_true, if_false]
      rw [w64_id (by omega) (by omega)]
      refine ih _ ⟨y + 1, w, by simp, by omega, hw.congr (by simp; omega) (fun p q _ _ => ?_)⟩ (by simp; omega)
      constructor
      · rintro (k | ⟨b, k1, k2, k3⟩)
        · exact .inl k
        · exact .inr ⟨b, k1, by omega, k3⟩
      · rintro (k | ⟨b, k1, k2, k3⟩)
        · exact .inl k
        · rcases Nat.lt_or_ge b (lo + y) with k4 | k4
          · exact .inr ⟨b, k1, k4, k3⟩
          · exact absurd (show a = b by omega) k3.1
    · have hne : ((a : Int) != ((lo + y : Nat) : Int)) = true := by simp; omega
      obtain ⟨w', e1, e2⟩ := e64r hw (by omega) ha (b := lo + y) (by omega) hab (b0 := b0) (b1 := b1) (b2 := b2) (b3 := b3) (b4 := b4) (b5 := b5) (b6 := b6) (a3 := a3)
      simp only [hne, optG_true, e1, Option.bind_some, cond_true, Bool.false_eq_true, if_false]
      rw [w64_id (by omega) (by omega)]
      refine ih _ ⟨y + 1, w', by simp, by omega, e2.congr (by simp; omega) (fun p q _ _ => ?_)⟩ (by simp; omega)
      constructor
      · rintro ((k | ⟨b, k1, k2, k3⟩) | k)
        · exact .inl k
        · exact .inr ⟨b, k1, by omega, k3⟩
        · exact .inr ⟨lo + y, by omega, by omega, hab, k⟩
      · rintro (k | ⟨b, k1, k2, k3⟩)
        · exact .inl (.inl k)
        · rcases Nat.lt_or_ge b (lo + y) with k4 | k4
          · exact .inl (.inr ⟨b, k1, k4, k3⟩)
          · have : b = lo + y := by omega
            subst this
            exact .inr k3.2
  · rw [if_neg (by simp; omega)]
    refine ok_some.2 ⟨w, rfl, hw.congr (by omega) (fun p q _ _ => ?_)⟩
    have : lo + y = hi + 1 := by omega
    rw [this]
    constructor
    · rintro (k | ⟨b, k1, k2, k3⟩)
      · exact .inl k
      · exact .inr ⟨b, k1, by omega, k3⟩
    · rintro (k | ⟨b, k1, k2, k3⟩)
      · exact .inl k
      · exact .inr ⟨b, k1, by omega, k3⟩
end
end Go.Proofs.Ytpkhbbboedoldaa
namespace Go.Proofs.Ytpkhbbboedoldaa
open Go Go.Sx
set_option linter.all false

section
variable {b0 : List Sp} {b1 : Int} {b2 : List Sp} {b3 : List Pr} {b4 : Int} {b5 : List Pr} {b6 : List Int} {a3 : List Sp}

theorem e88L1 {k : Nat} (hk : 10 ≤ k) {v0 v : List Int} {N : Int} {R : Nat → Nat → Prop} (h : Vv v0 N R v) (hN : N ≤ 2 ^ 20) {x1 x2 : Sp} {lo hi lo' hi' : Nat} (h3 : x1.Lo = (lo' : Int)) (h4 : x1.Hi = (hi' : Int)) (h1 : x2.Lo = (lo : Int)) (h2 : x2.Hi = (hi : Int)) (hlh : lo ≤ hi) (hlh' : lo' ≤ hi') (hh : hi < 6) (hh' : hi' < 6) (n : Nat) (hn : 10 ≤ n) :
    Ok (F88L1 k b0 b1 b2 b3 b4 b5 b6 a3 x1 x2 n (0, v)) fun o => ∃ v', o = .inr v' ∧ Vv v0 (N + 36) (fun p q => R p q ∨ ∃ a b, lo' ≤ a ∧ a ≤ hi' ∧ lo ≤ b ∧ b ≤ hi ∧ two2 a b p q) v' := by
  refine ok_loop (f := F88L1 k b0 b1 b2 b3 b4 b5 b6 a3 x1 x2) (fun c => ∃ (y : Nat) (w : List Int), c = ((y : Int), w) ∧ y ≤ hi' + 1 - lo' ∧ Vv v0 (N + 6 * y) (fun p q => R p q ∨ ∃ a b, lo' ≤ a ∧ a < lo' + y ∧ lo ≤ b ∧ b ≤ hi ∧ two2 a b p q) w) (fun c => (6 - c.1).toNat) _ ?_ n (0, v)
    ⟨0, v, rfl, by omega, h.congr (by omega) (fun p q _ _ => ⟨.inl, fun h => h.elim id (fun ⟨a, b, k1, k2, _⟩ => by omega)⟩)⟩ (by simp; omega)
  rintro n _ ⟨y, w, rfl, hy, hw⟩ ih
  rw [F88L1]
  have hM : w64 (w64 (x1.Hi - x1.Lo) + 1) = (hi' : Int) + 1 - lo' := by
    have e : w64 ((hi' : Int) - lo') = (hi' : Int) - lo' := w64_id (by omega) (by omega)
    rw [h3, h4, e, w64_id (by omega) (by omega)]; omega
  rw [hM]
  by_cases hlt : y < hi' + 1 - lo'
  · rw [if_pos (by simp; omega)]
    simp only
    obtain ⟨o, e1, w', rfl, e2⟩ := e88L2 (b0 := b0) (b1 := b1) (b2 := b2) (b3 := b3) (b4 := b4) (b5 := b5) (b6 := b6) (a3 := a3) hw (by omega) (x1 := x1) (x2 := x2) (a := lo' + y) (c4 := ((y : Int), w)) (by simp [h3]) h1 h2 hlh (by omega) hh k hk
    rw [e1, Option.bind_some, outK_inr, w64_id (by omega) (by omega)]
    refine ih _ ⟨y + 1, w', by simp, by omega, e2.congr (by simp; omega) (fun p q _ _ => ?_)⟩ (by simp; omega)
    constructor
    · rintro ((k | ⟨a, b, k1, k2, k3⟩) | ⟨b, k1, k2, k3⟩)
      · exact .inl k
      · exact .inr ⟨a, b, k1, by omega, k3⟩
      · exact .inr ⟨lo' + y, b, by omega, by omega, k1, k2, k3⟩
    · rintro (k | ⟨a, b, k1, k2, k3, k4, k5⟩)
      · exact .inl (.inl k)
      · rcases Nat.lt_or_ge a (lo' + y) with k6 | k6
        · exact .inl (.inr ⟨a, b, k1, k6, k3, k4, k5⟩)
        · have : a = lo' + y := by omega
          subst this
          exact .inr ⟨b, k3, k4, k5⟩
  · rw [if_neg (by simp; omega)]
    refine ok_some.2 ⟨w, rfl, hw.congr (by omega) (fun p q _ _ => ?_)⟩
    have : lo' + y = hi' + 1 := by omega
    rw [this]
    constructor
    · rintro (k | ⟨a, b, k1, k2, k3⟩)
      · exact .inl k
      · exact .inr ⟨a, b, k1, by omega, k3⟩
    · rintro (k | ⟨a, b, k1, k2, k3⟩)
      · exact .inl k
      · exact .inr ⟨a, b, k1, by omega, k3⟩

/-- Two bands in which the points of a side can be, the one in the one, and the other one in the other one. -/
def meetS (all : List Sp) (s : Pr) (p q : Nat) : Prop := ∃ a b : Nat, all[s.A.toNat]!.Lo ≤ a ∧ (a : Int) ≤ all[s.A.toNat]!.Hi ∧ all[s.B.toNat]!.Lo ≤ b ∧ (b : Int) ≤ all[s.B.toNat]!.Hi ∧ two2 a b p q

/-- Spans of bands. -/
def BandsOk (all : List Sp) : Prop := ∀ i : Nat, i < all.length → 0 ≤ all[i]!.Lo ∧ all[i]!.Lo ≤ all[i]!.Hi ∧ all[i]!.Hi ≤ 5

theorem e88 {k : Nat} (hk : 10 ≤ k) {v0 v : List Int} {N : Int} {R : Nat → Nat → Prop} (h : Vv v0 N R v) (hN : N ≤ 2 ^ 20) {all : List Sp} (hall : BandsOk all) {s : Pr} (hA : 0 ≤ s.A ∧ s.A < all.length) (hB : 0 ≤ s.B ∧ s.B < all.length) :
    ∃ v', F88 k b0 b1 b2 b3 b4 b5 b6 v all s.A s.B = some v' ∧ Vv v0 (N + 36) (fun p q => R p q ∨ meetS all s p q) v' := by
  unfold F88
  rw [idx_bang hA.1 hA.2, Option.bind_some, idx_bang hB.1 hB.2, Option.bind_some]
  have g1 := hall s.A.toNat (by omega)
  have g2 := hall s.B.toNat (by omega)
  obtain ⟨o, e1, w', rfl, e2⟩ := e88L1 (b0 := b0) (b1 := b1) (b2 := b2) (b3 := b3) (b4 := b4) (b5 := b5) (b6 := b6) (a3 := all) hk h hN (x1 := all[s.A.toNat]!) (x2 := all[s.B.toNat]!) (lo' := all[s.A.toNat]!.Lo.toNat) (hi' := all[s.A.toNat]!.Hi.toNat) (lo := all[s.B.toNat]!.Lo.toNat) (hi := all[s.B.toNat]!.Hi.toNat)
    (by omega) (by omega) (by omega) (by omega) (by omega) (by omega) (by omega) (by omega) k hk
  rw [e1, Option.bind_some, outK_inr]
  refine ⟨w', rfl, e2.congr (Int.le_refl _) (fun p q _ _ => ?_)⟩
  constructor
  · rintro (k | ⟨a, b, k1, k2, k3, k4, k5⟩)
    · exact .inl k
    · exact .inr ⟨a, b, by omega, by omega, by omega, by omega, k5⟩
  · rintro (k | ⟨a, b, k1, k2, k3, k4, k5⟩)
    · exact .inl k
    · exact .inr ⟨a, b, by omega, by omega, by omega, by omega, k5⟩
end

theorem e64L2 {k : Nat} (hk : 20 ≤ k) {m : Mp} (g : GoodM m) {l : List Int} {all : List Sp} (hall : BandsOk all) (hlen : all.length = m.Heights.length) {v0 : List Int} (h0 : Vv v0 0 (fun _ _ => False) v0) :
    ∃ v', F64L2 k m l all k (0, v0) = some (.inr v') ∧ Vv v0 360 (fun p q => ∃ s ∈ m.Sides, meetS all s p q) v' := by
  have key : ∀ (suf pre : List Pr) (n : Nat) (c : Int) (v : List Int), m.Sides = pre ++ suf → c = pre.length → suf.length < n → Vv v0 (36 * pre.length) (fun p q => ∃ s ∈ pre, meetS all s p q) v →
      ∃ v', F64L2 k m l all n (c, v) = some (.inr v') ∧ Vv v0 360 (fun p q => ∃ s ∈ m.Sides, meetS all s p q) v' := by
    intro suf
    induction suf with
    | nil =>
      intro pre n c v hs hc hn hv
      obtain ⟨n, rfl⟩ : ∃ m, n = m + 1 := ⟨n - 1, by simp at hn; omega⟩
      rw [F64L2, if_neg (by rw [hs]; simp; omega)]
      have e : m.Sides = pre := by simpa using hs
      have := g.s1
      exact ⟨v, rfl, hv.congr (by rw [← e]; omega) (fun p q _ _ => by rw [e])⟩
    | cons s suf ih =>
      intro pre n c v hs hc hn hv
      obtain ⟨n, rfl⟩ : ∃ m, n = m + 1 := ⟨n - 1, by simp at hn; omega⟩
      have hl : m.Sides.length = pre.length + (suf.length + 1) := by rw [hs]; simp
      have := g.s1
      simp only [List.length_cons] at hn
      have hix : idx m.Sides c = some s := by rw [hs]; exact idx_mid hc
      have hsd := g.sid s (by rw [hs]; simp)
      rw [F64L2, if_pos (by simp; omega)]
      simp only [hix, Option.bind_some]
      unfold F72
      simp only [Option.bind_some]
      obtain ⟨w, e1, e2⟩ := e88 (k := k) (b0 := m.Borders) (b1 := m.Step) (b2 := m.Heights) (b3 := m.Sides) (b4 := m.Inks) (b5 := m.Like) (b6 := l) (by omega) hv (by omega) hall (s := s) (by omega) (by omega)
      rw [e1, Option.bind_some, w64_id (by omega) (by omega)]
      refine ih (pre ++ [s]) n (c + 1) w (by simp [hs]) (by simp; omega) (by omega) (e2.congr (by simp; omega) (fun p q _ _ => ?_))
      simp only [List.mem_append, List.mem_singleton]
      constructor
      · rintro (⟨t, h1, h2⟩ | h)
        · exact ⟨t, .inl h1, h2⟩
        · exact ⟨s, .inr rfl, h⟩
      · rintro ⟨t, h1 | rfl, h2⟩
        · exact .inl ⟨t, h1, h2⟩
        · exact .inr h2
  exact key m.Sides [] k 0 v0 rfl rfl (by have := g.s1; omega) (h0.congr (by simp) (fun p q _ _ => by simp))
end Go.Proofs.Ytpkhbbboedoldaa
namespace Go.Proofs.Ytpkhbbboedoldaa
open Go Go.Sx
set_option linter.all false

theorem bits_or (a b : Nat) (ha : a < 2 ^ 62) (hb : b < 2 ^ 62) : Go.bits .or .i64 (a : Int) (b : Int) = ((a ||| b : Nat) : Int) := by
  show w64 (((BitVec.ofInt 64 (a : Int) ||| BitVec.ofInt 64 (b : Int)).toNat : Nat) : Int) = _
  have e : (BitVec.ofInt 64 (a : Int) ||| BitVec.ofInt 64 (b : Int)).toNat = a ||| b := by
    rw [BitVec.toNat_or]
    simp only [BitVec.ofInt_natCast, BitVec.toNat_ofNat]
    rw [Nat.mod_eq_of_lt (by omega), Nat.mod_eq_of_lt (by omega)]
  rw [e]
  have := Nat.or_lt_two_pow ha hb
  exact w64_id (by omega) (by omega)
theorem bits_and (a b : Nat) (ha : a < 2 ^ 62) (hb : b < 2 ^ 62) : Go.bits .and .i64 (a : Int) (b : Int) = ((a &&& b : Nat) : Int) := by
  show w64 (((BitVec.ofInt 64 (a : Int) &&& BitVec.ofInt 64 (b : Int)).toNat : Nat) : Int) = _
  have e : (BitVec.ofInt 64 (a : Int) &&& BitVec.ofInt 64 (b : Int)).toNat = a &&& b := by
    rw [BitVec.toNat_and]
    simp only [BitVec.ofInt_natCast, BitVec.toNat_ofNat]
    rw [Nat.mod_eq_of_lt (by omega), Nat.mod_eq_of_lt (by omega)]
  rw [e]
  have := Nat.and_lt_two_pow (x := a) (y := b) (n := 62) hb
  exact w64_id (by omega) (by omega)
theorem shl1 (i : Nat) (hi : i < 6) : w64 ((1 : Int) * 2 ^ min (i : Int).toNat 64) = ((2 ^ i : Nat) : Int) := by
  rw [Int.toNat_natCast, Nat.min_eq_left (by omega)]
  match i, hi with
  | 0, _ => decide
  | 1, _ => decide
  | 2, _ => decide
  | 3, _ => decide
  | 4, _ => decide
  | 5, _ => decide

/-- What stands behind the 36 numbers: the inks that are alike, by bits. -/
structure Lk (v1 : List Int) (S : Nat → Nat → Prop) (v : List Int) : Prop where
  len : v.length = 42
  hd : ∀ i : Nat, i < 36 → v[i]! = v1[i]!
  bit : ∀ p : Nat, p < 6 → ∃ n : Nat, v[36 + p]! = (n : Int) ∧ n < 2 ^ 6 ∧ ∀ q : Nat, n.testBit q = true ↔ S p q

theorem Lk.set {v1 v : List Int} {S : Nat → Nat → Prop} (h : Lk v1 S v) {p : Nat} (hp : p < 6) {n : Nat} (hn : n < 2 ^ 6) {S' : Nat → Nat → Prop} (hs : ∀ q, n.testBit q = true ↔ S' p q) (ho : ∀ p' q, p' ≠ p → (S p' q ↔ S' p' q)) : Lk v1 S' (v.set (36 + p) (n : Int)) := by
  have hl := h.len
  refine ⟨by simpa using hl, fun i hi => ?_, fun p' hp' => ?_⟩
  · rw [set_bang (by omega), if_neg (by omega)]; exact h.hd i hi
  · rw [set_bang (by omega)]
    by_cases e : p' = p
    · subst e
      rw [if_pos rfl]
      exact ⟨n, rfl, hn, hs⟩
    · rw [if_neg (by omega)]
      obtain ⟨k, k1, k2, k3⟩ := h.bit p' hp'
      exact ⟨k, k1, k2, fun q => (k3 q).trans (ho p' q e)⟩

theorem e64L3 {m : Mp} (g : GoodM m) {v1 v : List Int} (h : Lk v1 (fun _ _ => False) v) {n : Nat} (hn : 10 ≤ n) :
    Ok (F64L3 m n (0, v)) fun o => ∃ w, o = .inr w ∧ Lk v1 (fun p q => p = q ∧ (p : Int) < m.Inks) w := by
  have hi0 := g.i0
  have hi1 := g.i1
  refine ok_loop (f := F64L3 m) (fun c => ∃ (i : Nat) (w : List Int), c = ((i : Int), w) ∧ (i : Int) ≤ m.Inks ∧ Lk v1 (fun p q => p = q ∧ p < i) w) (fun c => (6 - c.1).toNat) _ ?_ n (0, v) ⟨0, v, rfl, by omega, ⟨h.len, h.hd, fun p hp => ?_⟩⟩ (by simp; omega)
  · rintro n _ ⟨i, w, rfl, hi, hw⟩ ih
    rw [F64L3]
    by_cases hlt : (i : Int) < m.Inks
    · rw [if_pos (by simpa using hlt)]
      simp only
      have hl := hw.len
      rw [need_true (by omega), Option.bind_some, need_true (by omega), Option.bind_some, shl1 i (by omega)]
      simp only [Int.toNat_natCast, Nat.mul_one]
      rw [get_bang (by omega), Option.bind_some, w64_id (by omega) (by omega)]
      refine ih _ ⟨i + 1, w.set (36 + i) ((2 ^ i : Nat) : Int), by simp, by omega, hw.set (p := i) (by omega) (n := 2 ^ i) (Nat.pow_lt_pow_right (by omega) (by omega)) (fun q => ?_) (fun p q hp => ?_)⟩ (by simp; omega)
      · rw [Nat.testBit_two_pow]; simp
      · constructor
        · rintro ⟨h1, h2⟩; exact ⟨h1, by omega⟩
        · rintro ⟨h1, h2⟩; exact ⟨h1, by omega⟩
    · rw [if_neg (by simpa using hlt)]
      refine ok_some.2 ⟨w, rfl, ⟨hw.len, hw.hd, fun p hp => ?_⟩⟩
      obtain ⟨k, k1, k2, k3⟩ := hw.bit p hp
      exact ⟨k, k1, k2, fun q => (k3 q).trans ⟨fun ⟨a, b⟩ => ⟨a, by omega⟩, fun ⟨a, b⟩ => ⟨a, by omega⟩⟩⟩
  · obtain ⟨k, k1, k2, k3⟩ := h.bit p hp
    exact ⟨k, k1, k2, fun q => (k3 q).trans ⟨fun h => h.elim, fun h => by omega⟩⟩

/-- Whether two inks are alike by some pairs. -/
def likeP (ps : List Pr) (a b : Nat) : Prop := ∃ p ∈ ps, (p.A = a ∧ p.B = b) ∨ (p.A = b ∧ p.B = a)
def likeM (m : Mp) (ps : List Pr) (a b : Nat) : Prop := (a = b ∧ (a : Int) < m.Inks) ∨ likeP ps a b

theorem e64L4 {m : Mp} (g : GoodM m) {v1 : List Int} : ∀ (suf pre : List Pr) (n : Nat) (c : Int) (v : List Int), m.Like = pre ++ suf → c = pre.length → suf.length < n → Lk v1 (likeM m pre) v →
    ∃ w, F64L4 m n (c, v) = some (.inr w) ∧ Lk v1 (likeM m m.Like) w := by
  intro suf
  induction suf with
  | nil =>
    intro pre n c v hs hc hn hv
    obtain ⟨n, rfl⟩ : ∃ m, n = m + 1 := ⟨n - 1, by simp at hn; omega⟩
    rw [F64L4, if_neg (by rw [hs]; simp; omega)]
    have e : m.Like = pre := by simpa using hs
    rw [e]
    exact ⟨v, rfl, hv⟩
  | cons s suf ih =>
    intro pre n c v hs hc hn hv
    obtain ⟨n, rfl⟩ : ∃ m, n = m + 1 := ⟨n - 1, by simp at hn; omega⟩
    have hl : m.Like.length = pre.length + (suf.length + 1) := by rw [hs]; simp
    have := g.l1
    have hi1 := g.i1
    simp only [List.length_cons] at hn
    have hix : idx m.Like c = some s := by rw [hs]; exact idx_mid hc
    have hsd := g.lik s (by rw [hs]; simp)
    rw [F64L4, if_pos (by simp; omega)]
    simp only [hix, Option.bind_some]
    obtain ⟨a, hA⟩ : ∃ a : Nat, s.A = (a : Int) := ⟨s.A.toNat, by omega⟩
    obtain ⟨b, hB⟩ : ∃ b : Nat, s.B = (b : Int) := ⟨s.B.toNat, by omega⟩
    rw [hA, hB] at hsd
    have ha : a < 6 := by omega
    have hb : b < 6 := by omega
    have hab : a ≠ b := fun e => hsd.2.2 (by rw [e])
    have hlen := hv.len
    obtain ⟨x, x1, x2, x3⟩ := hv.bit a ha
    obtain ⟨y, y1, y2, y3⟩ := hv.bit b hb
    have e1 : need (0 ≤ (a : Int) ∧ (a : Int) < 6) = some () := need_true (by omega)
    have e2 : need (0 ≤ (b : Int) ∧ (b : Int) < 6) = some () := need_true (by omega)
    have e3 : need (0 ≤ (a : Int)) = some () := need_true (by omega)
    have e4 : need (0 ≤ (b : Int)) = some () := need_true (by omega)
    have h2a : 2 ^ a < 2 ^ 6 := Nat.pow_lt_pow_right (by omega) (by omega)
    have h2b : 2 ^ b < 2 ^ 6 := Nat.pow_lt_pow_right (by omega) (by omega)
    have hor1 := Nat.or_lt_two_pow x2 h2b
    have hor2 := Nat.or_lt_two_pow y2 h2a
    simp only [hA, hB, e1, e2, e3, e4, Option.bind_some, shl1 a ha, shl1 b hb]
    simp only [Int.toNat_natCast, Nat.mul_one]
    have e5 : v[36 + a]? = some (x : Int) := by rw [get_bang (by omega), x1]
    simp only [e5, Option.bind_some]
    rw [bits_or x (2 ^ b) (by omega) (by omega)]
    have e6 : (v.set (36 + a) ((x ||| 2 ^ b : Nat) : Int))[36 + b]? = some (y : Int) := by
      rw [get_bang (by simp; omega), set_bang (by omega), if_neg (by omega), y1]
    simp only [e6, Option.bind_some]
    rw [bits_or y (2 ^ a) (by omega) (by omega), w64_id (by omega) (by omega)]
    refine ih (pre ++ [s]) n (c + 1) _ (by simp [hs]) (by simp; omega) (by omega) ?_
    have s1 := hv.set (p := a) ha (n := x ||| 2 ^ b) hor1 (S' := fun p q => likeM m pre p q ∨ (p = a ∧ q = b)) (fun q => by
      rw [Nat.testBit_or, Bool.or_eq_true, x3 q, Nat.testBit_two_pow]
      simp only [decide_eq_true_eq, true_and]
      constructor
      · rintro (h | h)
        · exact .inl h
        · exact .inr h.symm
      · rintro (h | h)
        · exact .inl h
        · exact .inr h.symm) (fun p q hp => ⟨.inl, fun h => h.elim id (fun h => absurd h.1 hp)⟩)
    have s2 := s1.set (p := b) hb (n := y ||| 2 ^ a) hor2 (S' := likeM m (pre ++ [s])) (fun q => by
      rw [Nat.testBit_or, Bool.or_eq_true, y3 q, Nat.testBit_two_pow]
      simp only [decide_eq_true_eq]
      unfold likeM likeP
      constructor
      · rintro ((h | ⟨t, h1, h2⟩) | h)
        · exact .inl h
        · exact .inr ⟨t, by simp [h1], h2⟩
        · exact .inr ⟨s, by simp, .inr ⟨by rw [hA, h], hB⟩⟩
      · rintro (h | ⟨t, h1, h2⟩)
        · exact .inl (.inl h)
        · rcases List.mem_append.1 h1 with h1 | h1
          · exact .inl (.inr ⟨t, h1, h2⟩)
          · have : t = s := by simpa using h1
            subst this
            rcases h2 with ⟨k1, k2⟩ | ⟨k1, k2⟩
            · exact absurd (show a = b by omega) hab
            · exact .inr (by omega)) (fun p q hp => by
      unfold likeM likeP
      constructor
      · rintro ((h | ⟨t, h1, h2⟩) | ⟨rfl, rfl⟩)
        · exact .inl h
        · exact .inr ⟨t, by simp [h1], h2⟩
        · exact .inr ⟨s, by simp, .inl ⟨hA, hB⟩⟩
      · rintro (h | ⟨t, h1, h2⟩)
        · exact .inl (.inl h)
        · rcases List.mem_append.1 h1 with h1 | h1
          · exact .inl (.inr ⟨t, h1, h2⟩)
          · have : t = s := by simpa using h1
            subst this
            rcases h2 with ⟨k1, k2⟩ | ⟨k1, k2⟩
            · exact .inr (by omega)
            · exact absurd (show p = b by omega) hp)
    exact s2
end Go.Proofs.Ytpkhbbboedoldaa
namespace Go.Proofs.Ytpkhbbboedoldaa
open Go Go.Sx
set_option linter.all false

theorem band_mono : ∀ (l : List Int) {a b : Int}, a ≤ b → band l a ≤ band l b := by
  intro l
  induction l with
  | nil => intro a b _; simp [band]
  | cons x xs ih =>
    intro a b h
    simp only [band]
    split
    · rw [if_pos (by omega)]
      have := ih h
      omega
    · omega
theorem alls_ok {m : Mp} {l : List Int} (g : GoodM m) (gl : GoodL m l) : BandsOk (alls m l) := by
  intro i hi
  have hi' : i < m.Heights.length := by simpa [alls] using hi
  have e : (alls m l)[i]! = bandS l m.Heights[i]! := by
    rw [getElem!_pos _ i hi, getElem!_pos _ i hi']; simp [alls]
  have hs := g.hei m.Heights[i]! (by rw [getElem!_pos _ i hi']; exact List.getElem_mem _)
  have h1 := band_mono l hs.2.1
  have h2 := band_le l m.Heights[i]!.Hi
  have := g.b1
  have := gl.len
  rw [e]
  simp only [bandS]
  omega

/-- The numbers of a chart. -/
structure ChartOk (m : Mp) (l : List Int) (v : List Int) : Prop where
  len : v.length = 42
  pos : ∀ p q : Nat, p < 6 → q < 6 → (0 < v[p * 6 + q]! ↔ ∃ s ∈ m.Sides, meetS (alls m l) s p q)
  bit : ∀ p : Nat, p < 6 → ∃ n : Nat, v[36 + p]! = (n : Int) ∧ n < 2 ^ 6 ∧ ∀ q : Nat, n.testBit q = true ↔ likeM m m.Like p q

theorem rep_bang (i : Nat) : (List.replicate 42 (0 : Int))[i]! = 0 := by
  by_cases h : i < 42
  · rw [getElem!_pos _ i (by rw [List.length_replicate]; exact h)]; exact List.getElem_replicate ..
  · rw [getElem!_neg _ i (by rw [List.length_replicate]; exact h)]; rfl

theorem e64_bad {k : Nat} (hk : 20 ≤ k) {m : Mp} {l : List Int} (h : (chkLeg m l).2 ≠ 0) : F64 k m l = some (none, (chkLeg m l).2) := by
  unfold F64
  rw [e19 hk, Option.bind_some, if_pos (by simpa using h)]
theorem e64 {k : Nat} (hk : 20 ≤ k) {m : Mp} {l : List Int} (g : GoodM m) (gl : GoodL m l) : ∃ v, F64 k m l = some (some ⟨m, l, alls m l, v⟩, 0) ∧ ChartOk m l v := by
  have h0 : (chkLeg m l).2 = 0 := chkLeg_good.2 ⟨g, gl⟩
  have hl : l.length ≤ 5 := by have := g.b1; have := gl.len; omega
  unfold F64
  rw [e19 hk, Option.bind_some, if_neg (by simp [h0]), e64L1 hk (gl.inc g) g.h1 hl, Option.bind_some, outK_inr]
  have hv0 : Vv (List.replicate 42 0) 0 (fun _ _ => False) (List.replicate 42 0) := ⟨by simp, fun _ _ => rfl, fun i _ => by rw [rep_bang]; omega, fun p q _ _ => by rw [rep_bang]; simp⟩
  obtain ⟨v1, e1, h1⟩ := e64L2 hk g (l := l) (alls_ok g gl) (by simp [alls]) hv0
  rw [e1, Option.bind_some, outK_inr]
  have hl1 : Lk v1 (fun _ _ => False) v1 := ⟨h1.len, fun _ _ => rfl, fun p hp => ⟨0, by rw [h1.tl _ (by omega), rep_bang]; rfl, by decide, fun q => by simp⟩⟩
  obtain ⟨o, e2, v2, rfl, h2⟩ := e64L3 g hl1 (n := k) (by omega)
  rw [e2, Option.bind_some, outK_inr]
  obtain ⟨v3, e3, h3⟩ := e64L4 g (v1 := v1) m.Like [] k 0 v2 rfl rfl (by have := g.l1; omega) ⟨h2.len, h2.hd, fun p hp => by
    obtain ⟨n, k1, k2, k3⟩ := h2.bit p hp
    exact ⟨n, k1, k2, fun q => (k3 q).trans ⟨.inl, fun h => h.elim id (fun ⟨t, h, _⟩ => by simp at h)⟩⟩⟩
  rw [e3, Option.bind_some, outK_inr]
  exact ⟨v3, rfl, ⟨h3.len, fun p q hp hq => by rw [h3.hd _ (by omega)]; exact h1.pos p q hp hq, h3.bit⟩⟩

/-- Bands and the reference's. -/
theorem e21 {k : Nat} (hk : 20 ≤ k) {m : Mp} {l : List Int} : F21 k m l = some (if (chkLeg m l).2 = 0 then (alls m l, 0) else ([], (chkLeg m l).2)) := by
  unfold F21
  by_cases h : (chkLeg m l).2 = 0
  · obtain ⟨g, gl⟩ := chkLeg_good.1 h
    obtain ⟨v, e, _⟩ := e64 hk g gl
    rw [e, if_pos h]; rfl
  · rw [e64_bad hk h, if_neg h, Option.bind_some, if_pos (by simpa using h)]
end Go.Proofs.Ytpkhbbboedoldaa
namespace Go.Proofs.Ytpkhbbboedoldaa
open Go Go.Sx
set_option linter.all false

theorem e22 {k : Nat} (hk : 20 ≤ k) {m : Mp} {l : List Int} : F22 k m l = some (if (chkLeg m l).2 = 0 then (alls m l, 0) else ([], (chkLeg m l).2)) := by
  unfold F22
  rw [e20 hk, Option.bind_some]
  by_cases h : (chkLeg m l).2 = 0
  · obtain ⟨g, gl⟩ := chkLeg_good.1 h
    rw [if_neg (by simp [h]), if_pos h, e65 hk g.h1 (by have := g.b1; have := gl.len; omega), Option.bind_some]
  · rw [if_pos (by simpa using h), if_neg h]

/-- A loop that compares two lists of one length. -/
theorem same_loop {α : Type} {a b : List α} {L : Nat → Int → Option (Bool ⊕ Unit)} {eq : α → α → Bool} (hab : a = b) (heq : ∀ x ∈ a, eq x x = true) (h62 : a.length < 2 ^ 62)
    (hL : ∀ n c, L (n + 1) c = if (decide (c < (a.length : Int))) then ((idx a c).bind fun x => (idx b c).bind fun y => if (!eq x y) then (some (.inl false)) else (L n (w64 (c + 1)))) else (some (.inr ()))) :
    ∀ (suf pre : List α) (n : Nat) (c : Int), a = pre ++ suf → c = pre.length → suf.length < n → L n c = some (.inr ()) := by
  subst hab
  intro suf
  induction suf with
  | nil =>
    intro pre n c hl hc hn
    obtain ⟨n, rfl⟩ : ∃ m, n = m + 1 := ⟨n - 1, by simp at hn; omega⟩
    rw [hL, if_neg (by rw [hl]; simp; omega)]
  | cons x suf ih =>
    intro pre n c hl hc hn
    obtain ⟨n, rfl⟩ : ∃ m, n = m + 1 := ⟨n - 1, by simp at hn; omega⟩
    have hlen : a.length = pre.length + (suf.length + 1) := by rw [hl]; simp
    simp only [List.length_cons] at hn
    rw [hL, if_pos (by simp; omega)]
    rw [show idx a c = some x by rw [hl]; exact idx_mid hc, Option.bind_some, Option.bind_some, heq x (by rw [hl]; simp), if_neg (by simp), w64_id (by omega) (by omega)]
    exact ih (pre ++ [x]) n (c + 1) (by simp [hl]) (by simp; omega) (by omega)

theorem e23 {k : Nat} {a : List Sp} (h : a.length < k) (h62 : a.length < 2 ^ 62) : F23 k a a = some true := by
  unfold F23
  rw [if_neg (by simp), same_loop (a := a) (b := a) (L := F23L1 a a) (eq := fun x y => (x.Lo == y.Lo) && (x.Hi == y.Hi)) rfl (by simp) h62 (fun n c => rfl) a [] k 0 rfl rfl h, Option.bind_some, outK_inr]
theorem e26 {k : Nat} {a : List Int} (h : a.length < k) (h62 : a.length < 2 ^ 62) : F26 k a a = some true := by
  unfold F26
  rw [if_neg (by simp), same_loop (a := a) (b := a) (L := F26L1 a a) (eq := fun x y => x == y) rfl (by simp) h62 (fun n c => rfl) a [] k 0 rfl rfl h, Option.bind_some, outK_inr]
theorem e29 {k : Nat} {a : List Pr} (h : a.length < k) (h62 : a.length < 2 ^ 62) : F29 k a a = some true := by
  unfold F29
  rw [if_neg (by simp), same_loop (a := a) (b := a) (L := F29L1 a a) (eq := fun x y => (x.A == y.A) && (x.B == y.B)) rfl (by simp) h62 (fun n c => rfl) a [] k 0 rfl rfl h, Option.bind_some, outK_inr]

/-- Which spans are of several bands, from a number on. -/
def doubt : List Sp → Int → List Int
  | [], _ => []
  | s :: ss, i => if s.Lo < s.Hi then i :: doubt ss (i + 1) else doubt ss (i + 1)
theorem doubt_len : ∀ (l : List Sp) (i : Int), (doubt l i).length ≤ l.length := by
  intro l
  induction l with
  | nil => intro i; simp [doubt]
  | cons s ss ih => intro i; simp only [doubt]; have := ih (i + 1); split <;> simp <;> omega

theorem e66L1 {x : List Sp} (h8 : x.length ≤ 8) : ∀ (suf pre : List Sp) (n : Nat) (c : Int) (acc : List Int), x = pre ++ suf → c = pre.length → suf.length < n → acc.length ≤ pre.length → F66L1 x n (c, acc) = some (.inr (acc ++ doubt suf c)) := by
  intro suf
  induction suf with
  | nil =>
    intro pre n c acc hl hc hn ha
    obtain ⟨n, rfl⟩ : ∃ m, n = m + 1 := ⟨n - 1, by simp at hn; omega⟩
    rw [F66L1, if_neg (by rw [hl]; simp; omega)]; simp [doubt]
  | cons s suf ih =>
    intro pre n c acc hl hc hn ha
    obtain ⟨n, rfl⟩ : ∃ m, n = m + 1 := ⟨n - 1, by simp at hn; omega⟩
    have hlen : x.length = pre.length + (suf.length + 1) := by rw [hl]; simp
    simp only [List.length_cons] at hn
    have hix : idx x c = some s := by rw [hl]; exact idx_mid hc
    rw [F66L1, if_pos (by simp; omega)]
    simp only [hix, Option.bind_some, doubt]
    by_cases h : s.Lo < s.Hi
    · rw [if_pos (by simpa using h), if_pos h, need_true (by simp; omega), Option.bind_some, w64_id (by omega) (by omega), ih (pre ++ [s]) n (c + 1) _ (by simp [hl]) (by simp; omega) (by omega) (by simp; omega)]
      simp
    · rw [if_neg (by simpa using h), if_neg h, w64_id (by omega) (by omega), ih (pre ++ [s]) n (c + 1) _ (by simp [hl]) (by simp; omega) (by omega) (by simp; omega)]
theorem e24L1 {x : S_colour_chart} (h8 : x.bands.length ≤ 8) (hb : ∀ s ∈ x.bands, s.Lo ≤ s.Hi) : ∀ (suf pre : List Sp) (n : Nat) (c : Int) (acc : List Int), x.bands = pre ++ suf → c = pre.length → suf.length < n → acc.length ≤ pre.length → F24L1 x n (c, acc) = some (.inr (acc ++ doubt suf c)) := by
  intro suf
  induction suf with
  | nil =>
    intro pre n c acc hl hc hn ha
    obtain ⟨n, rfl⟩ : ∃ m, n = m + 1 := ⟨n - 1, by simp at hn; omega⟩
    rw [F24L1, if_neg (by rw [hl]; simp; omega)]; simp [doubt]
  | cons s suf ih =>
    intro pre n c acc hl hc hn ha
    obtain ⟨n, rfl⟩ : ∃ m, n = m + 1 := ⟨n - 1, by simp at hn; omega⟩
    have hlen : x.bands.length = pre.length + (suf.length + 1) := by rw [hl]; simp
    simp only [List.length_cons] at hn
    have hix : idx x.bands c = some s := by rw [hl]; exact idx_mid hc
    have hs := hb s (by rw [hl]; simp)
    rw [F24L1, if_pos (by simp; omega)]
    simp only [hix, Option.bind_some, doubt]
    by_cases h : s.Lo < s.Hi
    · rw [if_pos (by simp; omega), if_pos h, need_true (by simp; omega), Option.bind_some, w64_id (by omega) (by omega), ih (pre ++ [s]) n (c + 1) _ (by simp [hl]) (by simp; omega) (by omega) (by simp; omega)]
      simp
    · rw [if_neg (by simp; omega), if_neg h, w64_id (by omega) (by omega), ih (pre ++ [s]) n (c + 1) _ (by simp [hl]) (by simp; omega) (by omega) (by simp; omega)]

theorem alls_le {m : Mp} {l : List Int} (g : GoodM m) : ∀ s ∈ alls m l, s.Lo ≤ s.Hi := by
  intro s hs
  simp only [alls, List.mem_map] at hs
  obtain ⟨t, ht, rfl⟩ := hs
  have := band_mono l (g.hei t ht).2.1
  simp only [bandS]; omega
def unsure (m : Mp) (l : List Int) : List Int × Int := if (chkLeg m l).2 = 0 then (doubt (alls m l) 0, 0) else ([], (chkLeg m l).2)
theorem e24 {k : Nat} (hk : 20 ≤ k) {m : Mp} {l : List Int} : F24 k m l = some (unsure m l) := by
  unfold F24 unsure
  by_cases h : (chkLeg m l).2 = 0
  · obtain ⟨g, gl⟩ := chkLeg_good.1 h
    obtain ⟨v, e, _⟩ := e64 hk g gl
    have h8 : (alls m l).length ≤ 8 := by have := g.h1; simpa [alls] using this
    rw [e, if_pos h, Option.bind_some, if_neg (by simp), Option.bind_some, e24L1 h8 (alls_le g) (alls m l) [] k 0 [] rfl rfl (by omega) (by simp), Option.bind_some, outK_inr]
    rfl
  · rw [e64_bad hk h, if_neg h, Option.bind_some, if_pos (by simpa using h)]
theorem e66 {k : Nat} (hk : 20 ≤ k) {m : Mp} {l : List Int} (hh : m.Heights.length ≤ 8) (hl : l.length ≤ 5) : F66 k m l = some (doubt (alls m l) 0) := by
  unfold F66
  have h8 : (alls m l).length ≤ 8 := by simpa [alls] using hh
  rw [e65 hk hh hl, Option.bind_some, e66L1 h8 (alls m l) [] k 0 [] rfl rfl (by omega) (by simp), Option.bind_some, outK_inr]
  rfl
theorem e25 {k : Nat} (hk : 20 ≤ k) {m : Mp} {l : List Int} : F25 k m l = some (unsure m l) := by
  unfold F25 unsure
  rw [e20 hk, Option.bind_some]
  by_cases h : (chkLeg m l).2 = 0
  · obtain ⟨g, gl⟩ := chkLeg_good.1 h
    rw [if_neg (by simp [h]), if_pos h, e66 hk g.h1 (by have := g.b1; have := gl.len; omega), Option.bind_some]
  · rw [if_pos (by simpa using h), if_neg h]
end Go.Proofs.Ytpkhbbboedoldaa
namespace Go.Proofs.Ytpkhbbboedoldaa
open Go Go.Sx
set_option linter.all false

/-- Whether the points of a side can be in two bands. -/
def besideB (all : List Sp) (s : Pr) (a b : Int) : Bool :=
  (okN all[s.A.toNat]!.Lo all[s.A.toNat]!.Hi a && okN all[s.B.toNat]!.Lo all[s.B.toNat]!.Hi b) || (okN all[s.A.toNat]!.Lo all[s.A.toNat]!.Hi b && okN all[s.B.toNat]!.Lo all[s.B.toNat]!.Hi a)
theorem meetS_beside {all : List Sp} {s : Pr} {p q : Nat} (h : p ≠ q) : meetS all s p q ↔ besideB all s p q = true := by
  unfold meetS besideB two2 okN
  simp only [Bool.or_eq_true, Bool.and_eq_true, decide_eq_true_eq]
  constructor
  · rintro ⟨a, b, h1, h2, h3, h4, h5, ⟨rfl, rfl⟩ | ⟨rfl, rfl⟩⟩
    · exact .inl ⟨⟨h1, h2⟩, h3, h4⟩
    · exact .inr ⟨⟨h1, h2⟩, h3, h4⟩
  · rintro (⟨⟨h1, h2⟩, h3, h4⟩ | ⟨⟨h1, h2⟩, h3, h4⟩)
    · exact ⟨p, q, h1, h2, h3, h4, h, .inl ⟨rfl, rfl⟩⟩
    · exact ⟨q, p, h1, h2, h3, h4, fun e => h e.symm, .inr ⟨rfl, rfl⟩⟩
/-- Whether two bands meet. -/
def metB (m : Mp) (l : List Int) (a b : Int) : Bool := m.Sides.any fun s => besideB (alls m l) s a b
theorem chart_met {m : Mp} {l v : List Int} (h : ChartOk m l v) {p q : Nat} (hp : p < 6) (hq : q < 6) (hpq : p ≠ q) : 0 < v[p * 6 + q]! ↔ metB m l p q = true := by
  rw [h.pos p q hp hq, metB, List.any_eq_true]
  exact exists_congr fun s => and_congr_right fun _ => meetS_beside hpq

/-- The pairs of one band with those from b on, n of them. -/
def rowM (P : Int → Bool) (a : Int) : Nat → Int → List Pr
  | 0, _ => []
  | n + 1, b => if P b then ⟨a, b⟩ :: rowM P a n (b + 1) else rowM P a n (b + 1)
theorem rowM_len (P : Int → Bool) (a : Int) : ∀ (n : Nat) (b : Int), (rowM P a n b).length ≤ n := by
  intro n
  induction n with
  | zero => intro b; simp [rowM]
  | succ n ih => intro b; simp only [rowM]; have := ih (b + 1); split <;> simp <;> omega
theorem rowM_none {P : Int → Bool} {a : Int} : ∀ (n : Nat) (b : Int), (∀ i : Nat, i < n → P (b + i) = false) → rowM P a n b = [] := by
  intro n
  induction n with
  | zero => intro b _; rfl
  | succ n ih =>
    intro b h
    have h0 := h 0 (by omega)
    simp only [Int.natCast_zero, Int.add_zero] at h0
    simp only [rowM, h0, Bool.false_eq_true, if_false]
    exact ih (b + 1) fun i hi => by have := h (i + 1) (by omega); rw [show b + 1 + (i : Int) = b + ((i + 1 : Nat) : Int) by simp; omega]; exact this
theorem rowM_add {P : Int → Bool} {a : Int} : ∀ (n k : Nat) (b : Int), rowM P a (n + k) b = rowM P a n b ++ rowM P a k (b + n) := by
  intro n
  induction n with
  | zero => intro k b; simp [rowM]
  | succ n ih =>
    intro k b
    rw [show n + 1 + k = (n + k) + 1 by omega]
    simp only [rowM]
    rw [ih k (b + 1), show b + 1 + (n : Int) = b + ((n + 1 : Nat) : Int) by simp; omega]
    split <;> simp

theorem e84 {all : List Sp} {s : Pr} {a b : Int} (hA : 0 ≤ s.A ∧ s.A < all.length) (hB : 0 ≤ s.B ∧ s.B < all.length) : F84 all s a b = some (besideB all s a b) := by
  unfold F84 besideB
  simp only [idx_bang hA.1 hA.2, idx_bang hB.1 hB.2, Option.bind_some, e61]
  cases okN all[s.A.toNat]!.Lo all[s.A.toNat]!.Hi a <;> cases okN all[s.B.toNat]!.Lo all[s.B.toNat]!.Hi b <;> cases okN all[s.A.toNat]!.Lo all[s.A.toNat]!.Hi b <;> cases okN all[s.B.toNat]!.Lo all[s.B.toNat]!.Hi a <;> rfl
end Go.Proofs.Ytpkhbbboedoldaa
namespace Go.Proofs.Ytpkhbbboedoldaa
open Go Go.Sx
set_option linter.all false

theorem e67L3 {m : Mp} (g : GoodM m) {l : List Int} {c4 c8 : Int × List Pr} : ∀ (suf pre : List Pr) (n : Nat) (c : Int) (acc : Bool), m.Sides = pre ++ suf → c = pre.length → suf.length < n →
    F67L3 m (alls m l) c4 c8 n (acc, c) = some (.inr (acc || suf.any fun s => besideB (alls m l) s c4.1 c8.1)) := by
  intro suf
  induction suf with
  | nil =>
    intro pre n c acc hl hc hn
    obtain ⟨n, rfl⟩ : ∃ m, n = m + 1 := ⟨n - 1, by simp at hn; omega⟩
    rw [F67L3, if_neg (by rw [hl]; simp; omega)]; simp
  | cons s suf ih =>
    intro pre n c acc hl hc hn
    obtain ⟨n, rfl⟩ : ∃ m, n = m + 1 := ⟨n - 1, by simp at hn; omega⟩
    have hlen : m.Sides.length = pre.length + (suf.length + 1) := by rw [hl]; simp
    have := g.s1
    simp only [List.length_cons] at hn
    have hix : idx m.Sides c = some s := by rw [hl]; exact idx_mid hc
    have hs := g.sid s (by rw [hl]; simp)
    have hal : (alls m l).length = m.Heights.length := by simp [alls]
    rw [F67L3, if_pos (by simp; omega)]
    simp only [hix]
    cases acc with
    | true =>
      simp only [Bool.not_true, optG_false, Option.bind_some, cond_true]
      rw [w64_id (by omega) (by omega), ih (pre ++ [s]) n (c + 1) true (by simp [hl]) (by simp; omega) (by omega)]
      simp
    | false =>
      simp only [Bool.not_false, optG_true, Option.bind_some, cond_false]
      rw [e84 (by omega) (by omega), Option.bind_some, w64_id (by omega) (by omega), ih (pre ++ [s]) n (c + 1) _ (by simp [hl]) (by simp; omega) (by omega)]
      simp

theorem e67L2 {k : Nat} (hk : 20 ≤ k) {m : Mp} (g : GoodM m) {l : List Int} (hl : l.length ≤ 5) {c4 : Int × List Pr} : ∀ (d n : Nat) (b : Int) (acc : List Pr), 0 ≤ b → b + d = l.length + 1 → d < n → acc.length + d ≤ 100 →
    F67L2 k m l (alls m l) c4 n (b, acc) = some (.inr (acc ++ rowM (metB m l c4.1) c4.1 d b)) := by
  intro d
  induction d with
  | zero =>
    intro n b acc hb0 hb hn ha
    obtain ⟨n, rfl⟩ : ∃ m, n = m + 1 := ⟨n - 1, by omega⟩
    rw [F67L2, if_neg (by simp; omega)]; simp [rowM]
  | succ d ih =>
    intro n b acc hb0 hb hn ha
    obtain ⟨n, rfl⟩ : ∃ m, n = m + 1 := ⟨n - 1, by omega⟩
    have := g.s1
    rw [F67L2, if_pos (by simp; omega), e67L3 g (c8 := (b, acc)) m.Sides [] k 0 false rfl rfl (by omega), Option.bind_some, outK_inr]
    simp only [Bool.false_or, rowM]
    have e : (m.Sides.any fun s => besideB (alls m l) s c4.1 b) = metB m l c4.1 b := rfl
    rw [e]
    cases metB m l c4.1 b with
    | true =>
      simp only [if_true]
      rw [need_true (by simp; omega), Option.bind_some, w64_id (by omega) (by omega), ih n (b + 1) _ (by omega) (by omega) (by omega) (by simp; omega)]
      simp
    | false =>
      simp only [Bool.false_eq_true, if_false]
      rw [w64_id (by omega) (by omega), ih n (b + 1) _ (by omega) (by omega) (by omega) (by omega)]

/-- All pairs of bands that meet. -/
def metM (m : Mp) (l : List Int) : Nat → Int → List Pr
  | 0, _ => []
  | n + 1, a => rowM (metB m l a) a (l.length - a.toNat) (a + 1) ++ metM m l n (a + 1)
theorem metM_len {m : Mp} {l : List Int} (hl : l.length ≤ 5) : ∀ (n : Nat) (a : Int), (metM m l n a).length ≤ n * 5 := by
  intro n
  induction n with
  | zero => intro a; simp [metM]
  | succ n ih =>
    intro a
    simp only [metM, List.length_append]
    have h1 := rowM_len (metB m l a) a (l.length - a.toNat) (a + 1)
    have h2 := ih (a + 1)
    omega

theorem e67L1 {k : Nat} (hk : 20 ≤ k) {m : Mp} (g : GoodM m) {l : List Int} (hl : l.length ≤ 5) : ∀ (d n : Nat) (a : Int) (acc : List Pr), 0 ≤ a → a + d = l.length + 1 → d < n → acc.length ≤ 5 * a.toNat →
    F67L1 k m l (alls m l) n (a, acc) = some (.inr (acc ++ metM m l d a)) := by
  intro d
  induction d with
  | zero =>
    intro n a acc ha0 ha hn hc
    obtain ⟨n, rfl⟩ : ∃ m, n = m + 1 := ⟨n - 1, by omega⟩
    rw [F67L1, if_neg (by simp; omega)]; simp [metM]
  | succ d ih =>
    intro n a acc ha0 ha hn hc
    obtain ⟨n, rfl⟩ : ∃ m, n = m + 1 := ⟨n - 1, by omega⟩
    rw [F67L1, if_pos (by simp; omega)]
    simp only
    rw [w64_id (by omega) (by omega), e67L2 hk g hl (l.length - a.toNat) k (a + 1) acc (by omega) (by omega) (by omega) (by omega), Option.bind_some, outK_inr]
    have hr := rowM_len (metB m l a) a (l.length - a.toNat) (a + 1)
    rw [ih n (a + 1) _ (by omega) (by omega) (by omega) (by simp only [List.length_append]; omega)]
    simp [metM]
theorem e67 {k : Nat} (hk : 20 ≤ k) {m : Mp} (g : GoodM m) {l : List Int} (hl : l.length ≤ 5) : F67 k m l = some (metM m l (l.length + 1) 0) := by
  unfold F67
  rw [e65 hk g.h1 hl, Option.bind_some, e67L1 hk g hl (l.length + 1) k 0 [] (by omega) (by omega) (by omega) (by simp), Option.bind_some, outK_inr]
  rfl
def mets (m : Mp) (l : List Int) : List Pr × Int := if (chkLeg m l).2 = 0 then (metM m l (l.length + 1) 0, 0) else ([], (chkLeg m l).2)
theorem e28 {k : Nat} (hk : 20 ≤ k) {m : Mp} {l : List Int} : F28 k m l = some (mets m l) := by
  unfold F28 mets
  rw [e20 hk, Option.bind_some]
  by_cases h : (chkLeg m l).2 = 0
  · obtain ⟨g, gl⟩ := chkLeg_good.1 h
    rw [if_neg (by simp [h]), if_pos h, e67 hk g (by have := g.b1; have := gl.len; omega), Option.bind_some]
  · rw [if_pos (by simpa using h), if_neg h]
end Go.Proofs.Ytpkhbbboedoldaa
namespace Go.Proofs.Ytpkhbbboedoldaa
open Go Go.Sx
set_option linter.all false

theorem rowM_congr {P Q : Int → Bool} {a : Int} : ∀ (n : Nat) (b : Int), (∀ i : Nat, i < n → P (b + i) = Q (b + i)) → rowM P a n b = rowM Q a n b := by
  intro n
  induction n with
  | zero => intro b _; rfl
  | succ n ih =>
    intro b h
    have h0 := h 0 (by omega)
    simp only [Int.natCast_zero, Int.add_zero] at h0
    simp only [rowM, h0]
    rw [ih (b + 1) fun i hi => by have := h (i + 1) (by omega); rw [show b + 1 + (i : Int) = b + ((i + 1 : Nat) : Int) by simp; omega]; exact this]

theorem alls_hi {m : Mp} {l : List Int} (g : GoodM m) (i : Nat) (hi : i < m.Heights.length) : (alls m l)[i]!.Hi ≤ l.length := by
  have e : (alls m l)[i]! = bandS l m.Heights[i]! := by
    rw [getElem!_pos _ i (by simpa [alls] using hi), getElem!_pos _ i hi]; simp [alls]
  rw [e]
  have := band_le l m.Heights[i]!.Hi
  simp only [bandS]; omega
theorem metB_far {m : Mp} {l : List Int} (g : GoodM m) {a b : Int} (h : (l.length : Int) < a ∨ (l.length : Int) < b) : metB m l a b = false := by
  unfold metB
  rw [List.any_eq_false]
  intro s hs
  have hd := g.sid s hs
  have h1 := alls_hi (l := l) g s.A.toNat (by omega)
  have h2 := alls_hi (l := l) g s.B.toNat (by omega)
  simp only [besideB, okN, Bool.or_eq_true, Bool.and_eq_true, decide_eq_true_eq]
  omega

theorem e27L2 {c7 : Int × List Pr} {x : List Int} (hx : x.length = 6) : ∀ (d n : Nat) (b : Nat) (acc : List Pr), b + d = 6 → d < n → acc.length + d ≤ 100 →
    F27L2 c7 x n ((b : Int), acc) = some (.inr (acc ++ rowM (fun b => decide (c7.1 < b) && decide (0 < x[b.toNat]!)) c7.1 d b)) := by
  intro d
  induction d with
  | zero =>
    intro n b acc hb hn ha
    obtain ⟨n, rfl⟩ : ∃ m, n = m + 1 := ⟨n - 1, by omega⟩
    rw [F27L2, if_neg (by simp; omega)]; simp [rowM]
  | succ d ih =>
    intro n b acc hb hn ha
    obtain ⟨n, rfl⟩ : ∃ m, n = m + 1 := ⟨n - 1, by omega⟩
    rw [F27L2, if_pos (by simp; omega)]
    simp only [rowM]
    rw [need_true (by omega), Option.bind_some]
    simp only [Int.toNat_natCast, Nat.zero_add, Nat.mul_one]
    rw [get_bang (by omega), Option.bind_some, w64_id (by omega) (by omega)]
    have e : (cond (decide (c7.1 < (b : Int))) (decide (x[b]! > 0)) false) = (decide (c7.1 < (b : Int)) && decide (0 < x[b]!)) := by cases decide (c7.1 < (b : Int)) <;> rfl
    rw [e]
    have hb1 : (b : Int) + 1 = ((b + 1 : Nat) : Int) := by simp
    by_cases hq : (decide (c7.1 < (b : Int)) && decide (0 < x[b]!)) = true
    · rw [if_pos hq, if_pos hq, need_true (by simp; omega), Option.bind_some, hb1, ih n (b + 1) _ (by omega) (by omega) (by simp; omega)]
      simp
    · rw [if_neg hq, if_neg hq, hb1, ih n (b + 1) _ (by omega) (by omega) (by omega)]

theorem row_eq {m : Mp} {l v : List Int} (g : GoodM m) (hl : l.length ≤ 5) (hc : ChartOk m l v) {a : Nat} (ha : a < 6) {x : List Int} (hx : ∀ b : Nat, b < 6 → x[b]! = v[a * 6 + b]!) :
    rowM (fun b => decide ((a : Int) < b) && decide (0 < x[b.toNat]!)) a 6 0 = rowM (metB m l a) a (l.length - a) (a + 1) := by
  have h1 : rowM (fun b => decide ((a : Int) < b) && decide (0 < x[b.toNat]!)) a 6 0 = rowM (fun b => decide ((a : Int) < b) && metB m l a b) a 6 0 := by
    refine rowM_congr 6 0 fun i hi => ?_
    simp only [Int.zero_add, Int.toNat_natCast]
    by_cases hai : a < i
    · rw [hx i hi, show decide ((a : Int) < (i : Int)) = true by simpa using hai, Bool.true_and, Bool.true_and, Bool.eq_iff_iff, decide_eq_true_eq]
      exact chart_met hc ha hi (by omega)
    · rw [show decide ((a : Int) < (i : Int)) = false by simpa using hai, Bool.false_and, Bool.false_and]
  rw [h1]
  by_cases hal : a ≤ l.length
  · rw [show 6 = (a + 1) + ((l.length - a) + (5 - l.length)) by omega, rowM_add (a + 1), rowM_add (l.length - a)]
    rw [rowM_none (a + 1) 0 (fun i hi => by rw [show decide ((a : Int) < 0 + (i : Int)) = false by simp; omega, Bool.false_and])]
    rw [rowM_none (5 - l.length) _ (fun i hi => by rw [metB_far g (by right; omega), Bool.and_false])]
    rw [List.nil_append, List.append_nil, show (0 : Int) + ((a + 1 : Nat) : Int) = (a : Int) + 1 by simp]
    exact rowM_congr _ _ fun i hi => by rw [show decide ((a : Int) < (a : Int) + 1 + (i : Int)) = true by simp; omega, Bool.true_and]
  · rw [show l.length - a = 0 by omega, rowM_none 6 0 (fun i hi => by rw [metB_far g (by left; omega), Bool.and_false])]
    rfl
end Go.Proofs.Ytpkhbbboedoldaa
