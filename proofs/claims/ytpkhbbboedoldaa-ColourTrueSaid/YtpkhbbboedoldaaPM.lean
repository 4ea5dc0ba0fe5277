/- What the functions of chapter 09 come to, in plain words: Meets. -/
import Derived.Test.YtpkhbbboedoldaaPL
namespace Go.Proofs.Ytpkhbbboedoldaa
open Go Go.Sx
set_option linter.all false

theorem e67L3 {m : Mp} (g : GoodM m) {l : List Int} {c4 c8 : Int × List Pr} : ∀ (suf pre : List Pr) (n : Nat) (c : Int) (acc : Bool), m.Sides = pre ++ suf → c = pre.length → suf.length < n →
    F67L3 m (alls m l) c4 c8 n (acc, c) = some (.inr (acc || suf.any fun s => besideB (alls m l) s c4.1 c8.1)) := by
  intro suf
  induction suf with
  | nil =>
    intro pre n c acc hl hc hn
    obtain ⟨n, rfl⟩ : ∃ m, n = m + 1 := ⟨n - 1, by simp at hn; omega⟩
    rw [F67L3, if_neg (by rw [hl]; simp; omega)]; simp
  | cons s suf ih =>
    intro pre n c acc hl hc hn
    obtain ⟨n, rfl⟩ : ∃ m, n = m + 1 := ⟨n - 1, by simp at hn; omega⟩
    have hlen : m.Sides.length = pre.length + (suf.length + 1) := by rw [hl]; simp
    have := g.s1
    simp only [List.length_cons] at hn
    have hix : idx m.Sides c = some s := by rw [hl]; exact idx_mid hc
    have hs := g.sid s (by rw [hl]; simp)
    have hal : (alls m l).length = m.Heights.length := by simp [alls]
    rw [F67L3, if_pos (by simp; omega)]
    simp only [hix]
    cases acc with
    | true =>
      simp only [Bool.not_true, optG_false, Option.bind_some, cond_true]
      rw [w64_id (by omega) (by omega), ih (pre ++ [s]) n (c + 1) true (by simp [hl]) (by simp; omega) (by omega)]
      simp
    | false =>
      simp only [Bool.not_false, optG_true, Option.bind_some, cond_false]
      rw [e84 (by omega) (by omega), Option.bind_some, w64_id (by omega) (by omega), ih (pre ++ [s]) n (c + 1) _ (by simp [hl]) (by simp; omega) (by omega)]
      simp

theorem e67L2 {k : Nat} (hk : 20 ≤ k) {m : Mp} (g : GoodM m) {l : List Int} (hl : l.length ≤ 5) {c4 : Int × List Pr} : ∀ (d n : Nat) (b : Int) (acc : List Pr), 0 ≤ b → b + d = l.length + 1 → d < n → acc.length + d ≤ 100 →
    F67L2 k m l (alls m l) c4 n (b, acc) = some (.inr (acc ++ rowM (metB m l c4.1) c4.1 d b)) := by
  intro d
  induction d with
  | zero =>
    intro n b acc hb0 hb hn ha
    obtain ⟨n, rfl⟩ : ∃ m, n = m + 1 := ⟨n - 1, by omega⟩
    rw [F67L2, if_neg (by simp; omega)]; simp [rowM]
  | succ d ih =>
    intro n b acc hb0 hb hn ha
    obtain ⟨n, rfl⟩ : ∃ m, n = m + 1 := ⟨n - 1, by omega⟩
    have := g.s1
    rw [F67L2, if_pos (by simp; omega), e67L3 g (c8 := (b, acc)) m.Sides [] k 0 false rfl rfl (by omega), Option.bind_some, outK_inr]
    simp only [Bool.false_or, rowM]
    have e : (m.Sides.any fun s => besideB (alls m l) s c4.1 b) = metB m l c4.1 b := rfl
    rw [e]
    cases metB m l c4.1 b with
    | true =>
      simp only [if_true]
      rw [need_true (by simp; omega), Option.bind_some, w64_id (by omega) (by omega), ih n (b + 1) _ (by omega) (by omega) (by omega) (by simp; omega)]
      simp
    | false =>
      simp only [Bool.false_eq_true, if_false]
      rw [w64_id (by omega) (by omega), ih n (b + 1) _ (by omega) (by omega) (by omega) (by omega)]

/-- All pairs of bands that meet. -/
def metM (m : Mp) (l : List Int) : Nat → Int → List Pr
  | 0, _ => []
  | n + 1, a => rowM (metB m l a) a (l.length - a.toNat) (a + 1) ++ metM m l n (a + 1)
theorem metM_len {m : Mp} {l : List Int} (hl : l.length ≤ 5) : ∀ (n : Nat) (a : Int), (metM m l n a).length ≤ n * 5 := by
  intro n
  induction n with
  | zero => intro a; simp [metM]
  | succ n ih =>
    intro a
    simp only [metM, List.length_append]
    have h1 := rowM_len (metB m l a) a (l.length - a.toNat) (a + 1)
    have h2 := ih (a + 1)
    omega

theorem e67L1 {k : Nat} (hk : 20 ≤ k) {m : Mp} (g : GoodM m) {l : List Int} (hl : l.length ≤ 5) : ∀ (d n : Nat) (a : Int) (acc : List Pr), 0 ≤ a → a + d = l.length + 1 → d < n → acc.length ≤ 5 * a.toNat →
    F67L1 k m l (alls m l) n (a, acc) = some (.inr (acc ++ metM m l d a)) := by
  intro d
  induction d with
  | zero =>
    intro n a acc ha0 ha hn hc
    obtain ⟨n, rfl⟩ : ∃ m, n = m + 1 := ⟨n - 1, by omega⟩
    rw [F67L1, if_neg (by simp; omega)]; simp [metM]
  | succ d ih =>
    intro n a acc ha0 ha hn hc
    obtain ⟨n, rfl⟩ : ∃ m, n = m + 1 := ⟨n - 1, by omega⟩
    rw [F67L1, if_pos (by simp; omega)]
    simp only
    rw [w64_id (by omega) (by omega), e67L2 hk g hl (l.length - a.toNat) k (a + 1) acc (by omega) (by omega) (by omega) (by omega), Option.bind_some, outK_inr]
    have hr := rowM_len (metB m l a) a (l.length - a.toNat) (a + 1)
    rw [ih n (a + 1) _ (by omega) (by omega) (by omega) (by simp only [List.length_append]; omega)]
    simp [metM]
theorem e67 {k : Nat} (hk : 20 ≤ k) {m : Mp} (g : GoodM m) {l : List Int} (hl : l.length ≤ 5) : F67 k m l = some (metM m l (l.length + 1) 0) := by
  unfold F67
  rw [e65 hk g.h1 hl, Option.bind_some, e67L1 hk g hl (l.length + 1) k 0 [] (by omega) (by omega) (by omega) (by simp), Option.bind_some, outK_inr]
  rfl
def mets (m : Mp) (l : List Int) : List Pr × Int := if (chkLeg m l).2 = 0 then (metM m l (l.length + 1) 0, 0) else ([], (chkLeg m l).2)
theorem e28 {k : Nat} (hk : 20 ≤ k) {m : Mp} {l : List Int} : F28 k m l = some (mets m l) := by
  unfold F28 mets
  rw [e20 hk, Option.bind_some]
  by_cases h : (chkLeg m l).2 = 0
  · obtain ⟨g, gl⟩ := chkLeg_good.1 h
    rw [if_neg (by simp [h]), if_pos h, e67 hk g (by have := g.b1; have := gl.len; omega), Option.bind_some]
  · rw [if_pos (by simpa using h), if_neg h]
end Go.Proofs.Ytpkhbbboedoldaa
