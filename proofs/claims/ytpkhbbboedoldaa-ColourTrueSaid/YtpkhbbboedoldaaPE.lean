/- What the functions of chapter 09 come to, in plain words: the band of a height. -/
import Derived.Test.YtpkhbbboedoldaaPD
import Derived.Test.YtpkhbbboedoldaaDH
namespace Go.Proofs.Ytpkhbbboedoldaa
open Go Go.Sx
set_option linter.all false

/-- How many numbers at the start are not above a height. -/
def band : List Int → Int → Nat
  | [], _ => 0
  | x :: xs, h => if x ≤ h then band xs h + 1 else 0
theorem band_le : ∀ (l : List Int) (h : Int), band l h ≤ l.length := by
  intro l
  induction l with
  | nil => intro h; simp [band]
  | cons x xs ih => intro h; simp only [band]; split <;> simp; exact ih h
theorem band_lt : ∀ (l : List Int) (h : Int) (i : Nat), i < band l h → l[i]! ≤ h := by
  intro l
  induction l with
  | nil => intro h i hi; simp [band] at hi
  | cons x xs ih =>
    intro h i hi
    simp only [band] at hi
    split at hi
    · cases i with
      | zero => simpa
      | succ i => simpa using ih h i (by omega)
    · omega
theorem band_at : ∀ (l : List Int) (h : Int), band l h < l.length → h < l[band l h]! := by
  intro l
  induction l with
  | nil => intro h hi; simp [band] at hi
  | cons x xs ih =>
    intro h hi
    simp only [band] at hi ⊢
    split at hi
    · rename_i hx
      rw [if_pos hx]
      simpa using ih h (by simpa using hi)
    · rename_i hx
      rw [if_neg hx]
      simpa using Int.not_le.1 hx
/-- Numbers that rise. -/
def Inc (l : List Int) : Prop := ∀ i j : Nat, i < j → j < l.length → l[i]! < l[j]!
theorem band_is {l : List Int} (hi : Inc l) {h : Int} {n : Nat} (hn : n ≤ l.length) (h1 : ∀ i, i < n → l[i]! ≤ h) (h2 : n < l.length → h < l[n]!) : band l h = n := by
  rcases Nat.lt_trichotomy (band l h) n with hlt | he | hgt
  · have := band_at l h (by omega)
    have := h1 _ hlt
    omega
  · exact he
  · have := band_lt l h n hgt
    have := h2 (by have := band_le l h; omega)
    omega

theorem e83L1 {k : Nat} {l : List Int} {h : Int} : ∀ (suf pre : List Int) (n : Nat) (c : Int), l = pre ++ suf → c = pre.length → l.length < 2 ^ 62 → suf.length < n → F83L1 l h n c = some (.inr (c + band suf h)) := by
  intro suf
  induction suf with
  | nil =>
    intro pre n c hl hc h62 hn
    obtain ⟨n, rfl⟩ : ∃ m, n = m + 1 := ⟨n - 1, by simp at hn; omega⟩
    have h0 : decide (c < (l.length : Int)) = false := by rw [hl]; simp; omega
    rw [F83L1]
    simp only [h0, optG_false, Option.bind_some, cond_false, Bool.false_eq_true, if_false, band]
    congr 2; omega
  | cons x suf ih =>
    intro pre n c hl hc h62 hn
    obtain ⟨n, rfl⟩ : ∃ m, n = m + 1 := ⟨n - 1, by simp at hn; omega⟩
    have hlen : l.length = pre.length + (suf.length + 1) := by rw [hl]; simp
    simp only [List.length_cons] at hn
    have h0 : decide (c < (l.length : Int)) = true := by simp; omega
    rw [F83L1]
    simp only [h0, optG_true, cond_true]
    rw [show idx l c = some x by rw [hl]; exact idx_mid hc, Option.bind_some, band]
    by_cases hx : x ≤ h
    · rw [if_pos (by simpa using hx), if_pos hx, w64_id (by omega) (by omega), ih (pre ++ [x]) n (c + 1) (by simp [hl]) (by simp; omega) h62 (by omega)]
      congr 2; omega
    · rw [if_neg (by simpa using hx), if_neg hx]
      congr 2; omega
theorem e83 {k : Nat} {l : List Int} {h : Int} (hk : l.length < k) (h62 : l.length < 2 ^ 62) : F83 k l h = some (band l h : Int) := by
  unfold F83
  rw [e83L1 (k := k) (l := l) l [] k 0 rfl rfl h62 hk, Option.bind_some, outK_inr]
  simp

theorem e94 (a b : Int) : F94 a b = some (decide (a < b)) := by
  unfold F94 F96
  simp
  rfl
theorem half {a : Int} (h0 : 0 ≤ a) (h1 : a ≤ 2 ^ 62) : (IntKind.i64.wrap ((IntKind.u64.wrap (w64 a)) / 2 ^ min (1 : Int).toNat 64)) = a / 2 := by
  rw [w64_id (by omega) (by omega)]
  have e1 : IntKind.u64.wrap a = a := by
    show (if (false && decide (a % (18446744073709551616 : Int) ≥ 9223372036854775808)) = true then a % (18446744073709551616 : Int) - 18446744073709551616 else a % (18446744073709551616 : Int)) = a
    simp; omega
  rw [e1]
  have e2 : (2 : Int) ^ min (1 : Int).toNat 64 = 2 := by decide
  rw [e2]
  exact w64_id (by omega) (by omega)

theorem e92L1 {l : List Int} {t : Int} (hi : Inc l) (h62 : l.length < 2 ^ 61) (n : Nat) (hn : l.length < n) :
    Ok (F92L1 l t n (0, (l.length : Int))) fun o => ∃ i : Nat, o = .inr (i : Int) ∧ i ≤ l.length ∧ (∀ j, j < i → l[j]! < t) ∧ ∀ j, i ≤ j → j < l.length → t ≤ l[j]! := by
  refine ok_loop (f := F92L1 l t) (fun c => ∃ a b : Nat, c = ((a : Int), (b : Int)) ∧ a ≤ b ∧ b ≤ l.length ∧ (∀ j, j < a → l[j]! < t) ∧ ∀ j, b ≤ j → j < l.length → t ≤ l[j]!) (fun c => (c.2 - c.1).toNat) _ ?_ n _ ⟨0, l.length, rfl, by omega, by omega, fun j h => by omega, fun j h h' => by omega⟩ (by simp; omega)
  rintro n _ ⟨a, b, rfl, hab, hb, h1, h2⟩ ih
  rw [F92L1]
  by_cases hlt : a < b
  · rw [if_pos (by simp; omega)]
    simp only
    rw [half (by omega) (by omega)]
    have hm : ((a : Int) + b) / 2 = (((a + b) / 2 : Nat) : Int) := by omega
    rw [hm, idx_nat (by omega), Option.bind_some, e94, Option.bind_some]
    have hma : a ≤ (a + b) / 2 := by omega
    have hmb : (a + b) / 2 < b := by omega
    by_cases hx : l[(a + b) / 2]! < t
    · rw [if_pos (by simpa using hx), w64_id (by omega) (by omega)]
      refine ih _ ⟨(a + b) / 2 + 1, b, by simp, by omega, hb, fun j hj => ?_, h2⟩ (by simp; omega)
      rcases Nat.lt_or_ge j ((a + b) / 2) with h | h
      · have := hi j ((a + b) / 2) h (by omega); omega
      · have : j = (a + b) / 2 := by omega
        subst this; exact hx
    · rw [if_neg (by simpa using hx)]
      refine ih _ ⟨a, (a + b) / 2, rfl, by omega, by omega, h1, fun j hj hjl => ?_⟩ (by simp; omega)
      rcases Nat.lt_or_ge ((a + b) / 2) j with h | h
      · have := hi ((a + b) / 2) j h hjl; omega
      · have : j = (a + b) / 2 := by omega
        subst this; omega
  · rw [if_neg (by simp; omega)]
    exact ok_some.2 ⟨a, rfl, by omega, h1, fun j hj hjl => h2 j (by omega) hjl⟩

theorem e82 {k : Nat} {l : List Int} (hi : Inc l) (hk : l.length < k) (h62 : l.length < 2 ^ 61) {t : Int} {b0 : List Sp} {b1 : Int} {b2 : List Sp} {b3 : List Pr} {b4 : Int} {b5 : List Pr} {b8 : List Int} {a1 : List Sp} :
    F82v1 k t b0 b1 b2 b3 b4 b5 l b8 a1 = some (band l t : Int) := by
  unfold F82v1 F92
  obtain ⟨o, h1, i, rfl, h2, h3, h4⟩ := e92L1 (t := t) hi h62 k hk
  rw [h1, Option.bind_some, outK_inr]
  by_cases hil : i < l.length
  · have hd : decide ((i : Int) < (l.length : Int)) = true := by simpa using hil
    simp only [hd, optG_true, idx_nat hil, Option.bind_some, Bool.true_and, cond_true]
    by_cases hx : l[i]! = t
    · have hb : (l[i]! == t) = true := by simpa using hx
      simp only [hb, Bool.not_true, optG_false, Option.bind_some, Bool.false_and, cond_true, if_true]
      rw [w64_id (by omega) (by omega), band_is hi (n := i + 1) (by omega) (fun j hj => ?_) (fun h => ?_)]
      · simp
      · rcases Nat.lt_or_ge j i with h | h
        · have := h3 j h; omega
        · have : j = i := by omega
          subst this; omega
      · have := hi i (i + 1) (by omega) h; omega
    · have hb : (l[i]! == t) = false := by simpa using hx
      have hF : ∀ a, F95 a = some false := by intro a; unfold F95; simp
      simp only [hb, Bool.not_false, optG_true, Option.bind_some, hF, Bool.true_and, optG_false, cond_false, Bool.false_eq_true, if_false]
      rw [band_is hi (n := i) (by omega) (fun j hj => by have := h3 j hj; omega) (fun h => by have := h4 i (Nat.le_refl _) h; omega)]
  · have hd : decide ((i : Int) < (l.length : Int)) = false := by simp; omega
    simp only [hd, optG_false, Option.bind_some, Bool.false_and, cond_false, Bool.false_eq_true, if_false]
    rw [band_is hi (n := i) (by omega) (fun j hj => by have := h3 j hj; omega) (fun h => absurd h hil)]
end Go.Proofs.Ytpkhbbboedoldaa
