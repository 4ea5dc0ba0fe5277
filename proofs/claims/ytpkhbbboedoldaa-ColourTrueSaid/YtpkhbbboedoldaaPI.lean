/- What the functions of chapter 09 come to, in plain words: inks that are alike; the chart. -/
import Derived.Test.YtpkhbbboedoldaaPH
namespace Go.Proofs.Ytpkhbbboedoldaa
open Go Go.Sx
set_option linter.all false

theorem bits_or (a b : Nat) (ha : a < 2 ^ 62) (hb : b < 2 ^ 62) : Go.bits .or .i64 (a : Int) (b : Int) = ((a ||| b : Nat) : Int) := by
  show w64 (((BitVec.ofInt 64 (a : Int) ||| BitVec.ofInt 64 (b : Int)).toNat : Nat) : Int) = _
  have e : (BitVec.ofInt 64 (a : Int) ||| BitVec.ofInt 64 (b : Int)).toNat = a ||| b := by
    rw [BitVec.toNat_or]
    simp only [BitVec.ofInt_natCast, BitVec.toNat_ofNat]
    rw [Nat.mod_eq_of_lt (by omega), Nat.mod_eq_of_lt (by omega)]
  rw [e]
  have := Nat.or_lt_two_pow ha hb
  exact w64_id (by omega) (by omega)
theorem bits_and (a b : Nat) (ha : a < 2 ^ 62) (hb : b < 2 ^ 62) : Go.bits .and .i64 (a : Int) (b : Int) = ((a &&& b : Nat) : Int) := by
  show w64 (((BitVec.ofInt 64 (a : Int) &&& BitVec.ofInt 64 (b : Int)).toNat : Nat) : Int) = _
  have e : (BitVec.ofInt 64 (a : Int) &&& BitVec.ofInt 64 (b : Int)).toNat = a &&& b := by
    rw [BitVec.toNat_and]
    simp only [BitVec.ofInt_natCast, BitVec.toNat_ofNat]
    rw [Nat.mod_eq_of_lt (by omega), Nat.mod_eq_of_lt (by omega)]
  rw [e]
  have := Nat.and_lt_two_pow (x := a) (y := b) (n := 62) hb
  exact w64_id (by omega) (by omega)
theorem shl1 (i : Nat) (hi : i < 6) : w64 ((1 : Int) * 2 ^ min (i : Int).toNat 64) = ((2 ^ i : Nat) : Int) := by
  rw [Int.toNat_natCast, Nat.min_eq_left (by omega)]
  match i, hi with
  | 0, _ => decide
  | 1, _ => decide
  | 2, _ => decide
  | 3, _ => decide
  | 4, _ => decide
  | 5, _ => decide

/-- What stands behind the 36 numbers: the inks that are alike, by bits. -/
structure Lk (v1 : List Int) (S : Nat → Nat → Prop) (v : List Int) : Prop where
  len : v.length = 42
  hd : ∀ i : Nat, i < 36 → v[i]! = v1[i]!
  bit : ∀ p : Nat, p < 6 → ∃ n : Nat, v[36 + p]! = (n : Int) ∧ n < 2 ^ 6 ∧ ∀ q : Nat, n.testBit q = true ↔ S p q

theorem Lk.set {v1 v : List Int} {S : Nat → Nat → Prop} (h : Lk v1 S v) {p : Nat} (hp : p < 6) {n : Nat} (hn : n < 2 ^ 6) {S' : Nat → Nat → Prop} (hs : ∀ q, n.testBit q = true ↔ S' p q) (ho : ∀ p' q, p' ≠ p → (S p' q ↔ S' p' q)) : Lk v1 S' (v.set (36 + p) (n : Int)) := by
  have hl := h.len
  refine ⟨by simpa using hl, fun i hi => ?_, fun p' hp' => ?_⟩
  · rw [set_bang (by omega), if_neg (by omega)]; exact h.hd i hi
  · rw [set_bang (by omega)]
    by_cases e : p' = p
    · subst e
      rw [if_pos rfl]
      exact ⟨n, rfl, hn, hs⟩
    · rw [if_neg (by omega)]
      obtain ⟨k, k1, k2, k3⟩ := h.bit p' hp'
      exact ⟨k, k1, k2, fun q => (k3 q).trans (ho p' q e)⟩

theorem e64L3 {m : Mp} (g : GoodM m) {v1 v : List Int} (h : Lk v1 (fun _ _ => False) v) {n : Nat} (hn : 10 ≤ n) :
    Ok (F64L3 m n (0, v)) fun o => ∃ w, o = .inr w ∧ Lk v1 (fun p q => p = q ∧ (p : Int) < m.Inks) w := by
  have hi0 := g.i0
  have hi1 := g.i1
  refine ok_loop (f := F64L3 m) (fun c => ∃ (i : Nat) (w : List Int), c = ((i : Int), w) ∧ (i : Int) ≤ m.Inks ∧ Lk v1 (fun p q => p = q ∧ p < i) w) (fun c => (6 - c.1).toNat) _ ?_ n (0, v) ⟨0, v, rfl, by omega, ⟨h.len, h.hd, fun p hp => ?_⟩⟩ (by simp; omega)
  · rintro n _ ⟨i, w, rfl, hi, hw⟩ ih
    rw [F64L3]
    by_cases hlt : (i : Int) < m.Inks
    · rw [if_pos (by simpa using hlt)]
      simp only
      have hl := hw.len
      rw [need_true (by omega), Option.bind_some, need_true (by omega), Option.bind_some, shl1 i (by omega)]
      simp only [Int.toNat_natCast, Nat.mul_one]
      rw [get_bang (by omega), Option.bind_some, w64_id (by omega) (by omega)]
      refine ih _ ⟨i + 1, w.set (36 + i) ((2 ^ i : Nat) : Int), by simp, by omega, hw.set (p := i) (by omega) (n := 2 ^ i) (Nat.pow_lt_pow_right (by omega) (by omega)) (fun q => ?_) (fun p q hp => ?_)⟩ (by simp; omega)
      · rw [Nat.testBit_two_pow]; simp
      · constructor
        · rintro ⟨h1, h2⟩; exact ⟨h1, by omega⟩
        · rintro ⟨h1, h2⟩; exact ⟨h1, by omega⟩
    · rw [if_neg (by simpa using hlt)]
      refine ok_some.2 ⟨w, rfl, ⟨hw.len, hw.hd, fun p hp => ?_⟩⟩
      obtain ⟨k, k1, k2, k3⟩ := hw.bit p hp
      exact ⟨k, k1, k2, fun q => (k3 q).trans ⟨fun ⟨a, b⟩ => ⟨a, by omega⟩, fun ⟨a, b⟩ => ⟨a, by omega⟩⟩⟩
  · obtain ⟨k, k1, k2, k3⟩ := h.bit p hp
    exact ⟨k, k1, k2, fun q => (k3 q).trans ⟨fun h => h.elim, fun h => by omega⟩⟩

/-- Whether two inks are alike by some pairs. -/
def likeP (ps : List Pr) (a b : Nat) : Prop := ∃ p ∈ ps, (p.A = a ∧ p.B = b) ∨ (p.A = b ∧ p.B = a)
def likeM (m : Mp) (ps : List Pr) (a b : Nat) : Prop := (a = b ∧ (a : Int) < m.Inks) ∨ likeP ps a b

theorem e64L4 {m : Mp} (g : GoodM m) {v1 : List Int} : ∀ (suf pre : List Pr) (n : Nat) (c : Int) (v : List Int), m.Like = pre ++ suf → c = pre.length → suf.length < n → Lk v1 (likeM m pre) v →
    ∃ w, F64L4 m n (c, v) = some (.inr w) ∧ Lk v1 (likeM m m.Like) w := by
  intro suf
  induction suf with
  | nil =>
    intro pre n c v hs hc hn hv
    obtain ⟨n, rfl⟩ : ∃ m, n = m + 1 := ⟨n - 1, by simp at hn; omega⟩
    rw [F64L4, if_neg (by rw [hs]; simp; omega)]
    have e : m.Like = pre := by simpa using hs
    rw [e]
    exact ⟨v, rfl, hv⟩
  | cons s suf ih =>
    intro pre n c v hs hc hn hv
    obtain ⟨n, rfl⟩ : ∃ m, n = m + 1 := ⟨n - 1, by simp at hn; omega⟩
    have hl : m.Like.length = pre.length + (suf.length + 1) := by rw [hs]; simp
    have := g.l1
    have hi1 := g.i1
    simp only [List.length_cons] at hn
    have hix : idx m.Like c = some s := by rw [hs]; exact idx_mid hc
    have hsd := g.lik s (by rw [hs]; simp)
    rw [F64L4, if_pos (by simp; omega)]
    simp only [hix, Option.bind_some]
    obtain ⟨a, hA⟩ : ∃ a : Nat, s.A = (a : Int) := ⟨s.A.toNat, by omega⟩
    obtain ⟨b, hB⟩ : ∃ b : Nat, s.B = (b : Int) := ⟨s.B.toNat, by omega⟩
    rw [hA, hB] at hsd
    have ha : a < 6 := by omega
    have hb : b < 6 := by omega
    have hab : a ≠ b := fun e => hsd.2.2 (by rw [e])
    have hlen := hv.len
    obtain ⟨x, x1, x2, x3⟩ := hv.bit a ha
    obtain ⟨y, y1, y2, y3⟩ := hv.bit b hb
    have e1 : need (0 ≤ (a : Int) ∧ (a : Int) < 6) = some () := need_true (by omega)
    have e2 : need (0 ≤ (b : Int) ∧ (b : Int) < 6) = some () := need_true (by omega)
    have e3 : need (0 ≤ (a : Int)) = some () := need_true (by omega)
    have e4 : need (0 ≤ (b : Int)) = some () := need_true (by omega)
    have h2a : 2 ^ a < 2 ^ 6 := Nat.pow_lt_pow_right (by omega) (by omega)
    have h2b : 2 ^ b < 2 ^ 6 := Nat.pow_lt_pow_right (by omega) (by omega)
    have hor1 := Nat.or_lt_two_pow x2 h2b
    have hor2 := Nat.or_lt_two_pow y2 h2a
    simp only [hA, hB, e1, e2, e3, e4, Option.bind_some, shl1 a ha, shl1 b hb]
    simp only [Int.toNat_natCast, Nat.mul_one]
    have e5 : v[36 + a]? = some (x : Int) := by rw [get_bang (by omega), x1]
    simp only [e5, Option.bind_some]
    rw [bits_or x (2 ^ b) (by omega) (by omega)]
    have e6 : (v.set (36 + a) ((x ||| 2 ^ b : Nat) : Int))[36 + b]? = some (y : Int) := by
      rw [get_bang (by simp; omega), set_bang (by omega), if_neg (by omega), y1]
    simp only [e6, Option.bind_some]
    rw [bits_or y (2 ^ a) (by omega) (by omega), w64_id (by omega) (by omega)]
    refine ih (pre ++ [s]) n (c + 1) _ (by simp [hs]) (by simp; omega) (by omega) ?_
    have s1 := hv.set (p := a) ha (n := x ||| 2 ^ b) hor1 (S' := fun p q => likeM m pre p q ∨ (p = a ∧ q = b)) (fun q => by
      rw [Nat.testBit_or, Bool.or_eq_true, x3 q, Nat.testBit_two_pow]
      simp only [decide_eq_true_eq, true_and]
      constructor
      · rintro (h | h)
        · exact .inl h
        · exact .inr h.symm
      · rintro (h | h)
        · exact .inl h
        · exact .inr h.symm) (fun p q hp => ⟨.inl, fun h => h.elim id (fun h => absurd h.1 hp)⟩)
    have s2 := s1.set (p := b) hb (n := y ||| 2 ^ a) hor2 (S' := likeM m (pre ++ [s])) (fun q => by
      rw [Nat.testBit_or, Bool.or_eq_true, y3 q, Nat.testBit_two_pow]
      simp only [decide_eq_true_eq]
      unfold likeM likeP
      constructor
      · rintro ((h | ⟨t, h1, h2⟩) | h)
        · exact .inl h
        · exact .inr ⟨t, by simp [h1], h2⟩
        · exact .inr ⟨s, by simp, .inr ⟨by rw [hA, h], hB⟩⟩
      · rintro (h | ⟨t, h1, h2⟩)
        · exact .inl (.inl h)
        · rcases List.mem_append.1 h1 with h1 | h1
          · exact .inl (.inr ⟨t, h1, h2⟩)
          · have : t = s := by simpa using h1
            subst this
            rcases h2 with ⟨k1, k2⟩ | ⟨k1, k2⟩
            · exact absurd (show a = b by omega) hab
            · exact .inr (by omega)) (fun p q hp => by
      unfold likeM likeP
      constructor
      · rintro ((h | ⟨t, h1, h2⟩) | ⟨rfl, rfl⟩)
        · exact .inl h
        · exact .inr ⟨t, by simp [h1], h2⟩
        · exact .inr ⟨s, by simp, .inl ⟨hA, hB⟩⟩
      · rintro (h | ⟨t, h1, h2⟩)
        · exact .inl (.inl h)
        · rcases List.mem_append.1 h1 with h1 | h1
          · exact .inl (.inr ⟨t, h1, h2⟩)
          · have : t = s := by simpa using h1
            subst this
            rcases h2 with ⟨k1, k2⟩ | ⟨k1, k2⟩
            · exact .inr (by omega)
            · exact absurd (show p = b by omega) hp)
    exact s2
end Go.Proofs.Ytpkhbbboedoldaa
