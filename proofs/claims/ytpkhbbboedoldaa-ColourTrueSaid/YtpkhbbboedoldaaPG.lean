/- What the functions of chapter 09 come to, in plain words: which bands meet. -/
import Derived.Test.YtpkhbbboedoldaaPF
namespace Go.Proofs.Ytpkhbbboedoldaa
open Go Go.Sx
set_option linter.all false

theorem get_bang {v : List Int} {i : Nat} (h : i < v.length) : v[i]? = some v[i]! := by
  rw [List.getElem?_eq_getElem h, getElem!_pos v i h]
theorem set_bang {v : List Int} {i : Nat} {x : Int} {k : Nat} (h : i < v.length) : (v.set i x)[k]! = if k = i then x else v[k]! := by
  by_cases hk : k < v.length
  · rw [getElem!_pos (v.set i x) k (by simpa using hk), getElem!_pos v k hk, List.getElem_set]
    by_cases e : i = k
    · simp [e]
    · rw [if_neg e, if_neg (fun h => e h.symm)]
  · rw [if_neg (by omega)]
    rw [getElem!_neg (v.set i x) k (by simpa using hk), getElem!_neg v k hk]

/-- A row of numbers: 36 that count how often bands meet, and 6 behind them. -/
structure Vv (v0 : List Int) (N : Int) (R : Nat → Nat → Prop) (v : List Int) : Prop where
  len : v.length = 42
  tl : ∀ i : Nat, 36 ≤ i → v[i]! = v0[i]!
  bd : ∀ i : Nat, i < 36 → 0 ≤ v[i]! ∧ v[i]! ≤ N
  pos : ∀ p q : Nat, p < 6 → q < 6 → (0 < v[p * 6 + q]! ↔ R p q)
theorem Vv.congr {v0 : List Int} {N N' : Int} {R R' : Nat → Nat → Prop} {v : List Int} (h : Vv v0 N R v) (hN : N ≤ N') (hR : ∀ p q : Nat, p < 6 → q < 6 → (R p q ↔ R' p q)) : Vv v0 N' R' v :=
  ⟨h.len, h.tl, fun i hi => by have := h.bd i hi; omega, fun p q hp hq => (h.pos p q hp hq).trans (hR p q hp hq)⟩

theorem e64r {v0 v : List Int} {N : Int} {R : Nat → Nat → Prop} (h : Vv v0 N R v) (hN : N ≤ 2 ^ 40) {a b : Nat} (ha : a < 6) (hb : b < 6) (hab : a ≠ b) {b0 : List Sp} {b1 : Int} {b2 : List Sp} {b3 : List Pr} {b4 : Int} {b5 : List Pr} {b6 : List Int} {a3 : List Sp} :
    ∃ v', F64r a b b0 b1 b2 b3 b4 b5 b6 v a3 = some v' ∧ Vv v0 (N + 1) (fun p q => R p q ∨ (p = a ∧ q = b) ∨ (p = b ∧ q = a)) v' := by
  have hl := h.len
  have hi : a * 6 + b < v.length := by omega
  have hj : b * 6 + a < v.length := by omega
  have hij : b * 6 + a ≠ a * 6 + b := by omega
  have h1 := h.bd (a * 6 + b) (by omega)
  have h2 := h.bd (b * 6 + a) (by omega)
  refine ⟨(v.set (a * 6 + b) (v[a * 6 + b]! + 1)).set (b * 6 + a) (v[b * 6 + a]! + 1), ?_, ?_⟩
  · unfold F64r
    have e1 : need (0 ≤ (a : Int) ∧ (a : Int) < 6) = some () := need_true (by omega)
    have e2 : need (0 ≤ (b : Int) ∧ (b : Int) < 6) = some () := need_true (by omega)
    have e3 : v[a * 6 + b]? = some v[a * 6 + b]! := get_bang hi
    have e4 : (v.set (a * 6 + b) (v[a * 6 + b]! + 1))[b * 6 + a]? = some v[b * 6 + a]! := by
      rw [get_bang (by simpa using hj), set_bang hi, if_neg hij]
    simp only [e1, e2, Option.bind_some, Int.toNat_natCast, Nat.zero_add, Nat.mul_one, e3]
    rw [w64_id (by omega) (by omega)]
    simp only [e4, Option.bind_some]
    rw [w64_id (by omega) (by omega)]
  · have hg : ∀ k, ((v.set (a * 6 + b) (v[a * 6 + b]! + 1)).set (b * 6 + a) (v[b * 6 + a]! + 1))[k]! = if k = b * 6 + a then v[b * 6 + a]! + 1 else if k = a * 6 + b then v[a * 6 + b]! + 1 else v[k]! := by
      intro k
      rw [set_bang (by simpa using hj)]
      split
      · rfl
      · rw [set_bang hi]
    refine ⟨by simpa using hl, fun i hi' => ?_, fun i hi' => ?_, fun p q hp hq => ?_⟩
    · rw [hg, if_neg (by omega), if_neg (by omega)]; exact h.tl i hi'
    · rw [hg]
      have := h.bd i hi'
      split
      · omega
      · split <;> omega
    · rw [hg]
      have hpq := h.pos p q hp hq
      by_cases k1 : p = b ∧ q = a
      · rw [if_pos (by obtain ⟨rfl, rfl⟩ := k1; rfl)]
        exact ⟨fun _ => .inr (.inr k1), fun _ => by omega⟩
      · rw [if_neg (by omega)]
        by_cases k2 : p = a ∧ q = b
        · rw [if_pos (by obtain ⟨rfl, rfl⟩ := k2; rfl)]
          exact ⟨fun _ => .inr (.inl k2), fun _ => by omega⟩
        · rw [if_neg (by omega), hpq]
          constructor
          · exact .inl
          · rintro (h | h | h)
            · exact h
            · exact absurd h k2
            · exact absurd h k1

section
variable {b0 : List Sp} {b1 : Int} {b2 : List Sp} {b3 : List Pr} {b4 : Int} {b5 : List Pr} {b6 : List Int} {a3 : List Sp}

/-- Two bands that are not the same, the one within x, the other one within y. -/
def two2 (a b p q : Nat) : Prop := a ≠ b ∧ ((p = a ∧ q = b) ∨ (p = b ∧ q = a))

theorem e88L2 {v0 v : List Int} {N : Int} {R : Nat → Nat → Prop} (h : Vv v0 N R v) (hN : N ≤ 2 ^ 30) {x1 x2 : Sp} {a lo hi : Nat} {c4 : Int × List Int} (hx : x1.Lo + c4.1 = (a : Int)) (h1 : x2.Lo = (lo : Int)) (h2 : x2.Hi = (hi : Int)) (hlh : lo ≤ hi) (ha : a < 6) (hh : hi < 6) (n : Nat) (hn : 10 ≤ n) :
    Ok (F88L2 b0 b1 b2 b3 b4 b5 b6 a3 x1 x2 c4 n (0, v)) fun o => ∃ v', o = .inr v' ∧ Vv v0 (N + 6) (fun p q => R p q ∨ ∃ b, lo ≤ b ∧ b ≤ hi ∧ two2 a b p q) v' := by
  refine ok_loop (f := F88L2 b0 b1 b2 b3 b4 b5 b6 a3 x1 x2 c4) (fun c => ∃ (y : Nat) (w : List Int), c = ((y : Int), w) ∧ y ≤ hi + 1 - lo ∧ Vv v0 (N + y) (fun p q => R p q ∨ ∃ b, lo ≤ b ∧ b < lo + y ∧ two2 a b p q) w) (fun c => (6 - c.1).toNat) _ ?_ n (0, v)
    ⟨0, v, rfl, by omega, h.congr (by omega) (fun p q _ _ => ⟨.inl, fun h => h.elim id (fun ⟨b, k1, k2, _⟩ => by omega)⟩)⟩ (by simp; omega)
  rintro n _ ⟨y, w, rfl, hy, hw⟩ ih
  rw [F88L2]
  have hM : w64 (w64 (x2.Hi - x2.Lo) + 1) = (hi : Int) + 1 - lo := by
    have e : w64 ((hi : Int) - lo) = (hi : Int) - lo := w64_id (by omega) (by omega)
    rw [h1, h2, e, w64_id (by omega) (by omega)]; omega
  rw [hM]
  by_cases hlt : y < hi + 1 - lo
  · rw [if_pos (by simp; omega)]
    simp only
    have ea : w64 (x1.Lo + c4.1) = (a : Int) := by rw [hx]; exact w64_id (by omega) (by omega)
    have eb : w64 (x2.Lo + (y : Int)) = ((lo + y : Nat) : Int) := by rw [h1, w64_id (by omega) (by omega)]; simp
    rw [ea, eb]
    by_cases hab : a = lo + y
    · have hne : ((a : Int) != ((lo + y : Nat) : Int)) = false := by rw [hab]; simp
      simp only [hne, optG_false, Option.bind_some, cond_false, Bool.false_eq_true, if_false]
      rw [w64_id (by omega) (by omega)]
      refine ih _ ⟨y + 1, w, by simp, by omega, hw.congr (by simp; omega) (fun p q _ _ => ?_)⟩ (by simp; omega)
      constructor
      · rintro (k | ⟨b, k1, k2, k3⟩)
        · exact .inl k
        · exact .inr ⟨b, k1, by omega, k3⟩
      · rintro (k | ⟨b, k1, k2, k3⟩)
        · exact .inl k
        · rcases Nat.lt_or_ge b (lo + y) with k4 | k4
          · exact .inr ⟨b, k1, k4, k3⟩
          · exact absurd (show a = b by omega) k3.1
    · have hne : ((a : Int) != ((lo + y : Nat) : Int)) = true := by simp; omega
      obtain ⟨w', e1, e2⟩ := e64r hw (by omega) ha (b := lo + y) (by omega) hab (b0 := b0) (b1 := b1) (b2 := b2) (b3 := b3) (b4 := b4) (b5 := b5) (b6 := b6) (a3 := a3)
      simp only [hne, optG_true, e1, Option.bind_some, cond_true, Bool.false_eq_true, if_false]
      rw [w64_id (by omega) (by omega)]
      refine ih _ ⟨y + 1, w', by simp, by omega, e2.congr (by simp; omega) (fun p q _ _ => ?_)⟩ (by simp; omega)
      constructor
      · rintro ((k | ⟨b, k1, k2, k3⟩) | k)
        · exact .inl k
        · exact .inr ⟨b, k1, by omega, k3⟩
        · exact .inr ⟨lo + y, by omega, by omega, hab, k⟩
      · rintro (k | ⟨b, k1, k2, k3⟩)
        · exact .inl (.inl k)
        · rcases Nat.lt_or_ge b (lo + y) with k4 | k4
          · exact .inl (.inr ⟨b, k1, k4, k3⟩)
          · have : b = lo + y := by omega
            subst this
            exact .inr k3.2
  · rw [if_neg (by simp; omega)]
    refine ok_some.2 ⟨w, rfl, hw.congr (by omega) (fun p q _ _ => ?_)⟩
    have : lo + y = hi + 1 := by omega
    rw [this]
    constructor
    · rintro (k | ⟨b, k1, k2, k3⟩)
      · exact .inl k
      · exact .inr ⟨b, k1, by omega, k3⟩
    · rintro (k | ⟨b, k1, k2, k3⟩)
      · exact .inl k
      · exact .inr ⟨b, k1, by omega, k3⟩
end
end Go.Proofs.Ytpkhbbboedoldaa
