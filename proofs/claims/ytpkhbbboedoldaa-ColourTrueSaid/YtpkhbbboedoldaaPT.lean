/- What Mistaken of the program and of the reference comes to, in plain words. -/
import Derived.Test.YtpkhbbboedoldaaPQ
import Derived.Test.YtpkhbbboedoldaaPN
import Derived.Test.YtpkhbbboedoldaaPS
import Derived.Test.YtpkhbbboedoldaaDJ
namespace Go.Proofs.Ytpkhbbboedoldaa
open Go Go.Sx
set_option linter.all false

theorem e32 {k : Nat} (hk : 80 ≤ k) {m : Mp} {l : List Int} : F32 k m l = some (paints m l) := by
  unfold F32 paints
  rw [e20 (by omega), Option.bind_some]
  by_cases h : (chkLeg m l).2 = 0
  · obtain ⟨g, gl⟩ := chkLeg_good.1 h
    have hl : l.length ≤ 5 := by have := g.b1; have := gl.len; omega
    have hp := paintS_len (m := m) hl
    rw [if_neg (by simpa using h), if_pos h, e67 (by omega) g hl, Option.bind_some, w64_id (by omega) (by omega), e71v g hl hk, Option.bind_some]
    by_cases hn : paintS m l = []
    · rw [if_pos (by simp [hn]), if_pos hn]
    · rw [if_neg (by simpa using hn), if_neg hn, e48 (by omega) (by omega), Option.bind_some]
  · rw [if_pos (by simpa using h), if_neg h]

def anyN (p : Nat → Bool) : Nat → Nat → Bool
  | 0, _ => false
  | d + 1, b => p b || anyN p d (b + 1)
theorem anyN_iff {p : Nat → Bool} : ∀ (d b : Nat), anyN p d b = true ↔ ∃ i, b ≤ i ∧ i < b + d ∧ p i = true := by
  intro d
  induction d with
  | zero => intro b; simp [anyN]; intro i _ _; omega
  | succ d ih =>
    intro b
    rw [anyN, Bool.or_eq_true, ih]
    constructor
    · rintro (h | ⟨i, h1, h2, h3⟩)
      · exact ⟨b, by omega, by omega, h⟩
      · exact ⟨i, by omega, by omega, h3⟩
    · rintro ⟨i, h1, h2, h3⟩
      by_cases he : i = b
      · exact .inl (he ▸ h3)
      · exact .inr ⟨i, by omega, by omega, h3⟩
theorem any_loopN {β : Type} {N : Nat} {L : Nat → Int → Option (β ⊕ Unit)} {p : Nat → Bool} {r : β} (h0 : ∀ n (c : Int), ¬ c < (N : Int) → L (n + 1) c = some (.inr ()))
    (h1 : ∀ n (c : Nat), c < N → L (n + 1) (c : Int) = if p c then some (.inl r) else L n ((c : Int) + 1)) : ∀ (d n b : Nat), b + d = N → d < n → L n (b : Int) = some (if anyN p d b then .inl r else .inr ()) := by
  intro d
  induction d with
  | zero =>
    intro n b hb hn
    obtain ⟨n, rfl⟩ : ∃ m, n = m + 1 := ⟨n - 1, by omega⟩
    rw [h0 n b (by omega)]; rfl
  | succ d ih =>
    intro n b hb hn
    obtain ⟨n, rfl⟩ : ∃ m, n = m + 1 := ⟨n - 1, by omega⟩
    rw [h1 n b (by omega), anyN]
    cases p b with
    | true => simp
    | false => rw [if_neg (by simp), show (b : Int) + 1 = ((b + 1 : Nat) : Int) from by omega, ih n (b + 1) (by omega) (by omega), Bool.false_or]

def badInk (m : Mp) (n : Int) : Bool := decide (n < 0) || decide (n > m.Inks - 1)
def inksE (m : Mp) (l inks : List Int) : Int := if (chkLeg m l).2 = 0 then (if inks.length = l.length + 1 then (if inks.any (badInk m) then 4 else 0) else 3) else (chkLeg m l).2
theorem e73 {k : Nat} (hk : 20 ≤ k) {m : Mp} {l inks : List Int} : F73 k m l inks = some (inksE m l inks) := by
  unfold F73 inksE
  rw [e20 (by omega), Option.bind_some]
  have stop : ∀ (n : Nat) (e c : Int), 0 < n → e ≠ 0 → F73L1 m inks n (e, c) = some (.inr e) := by
    intro n e c hn he
    obtain ⟨n, rfl⟩ : ∃ m, n = m + 1 := ⟨n - 1, by omega⟩
    rw [F73L1, if_neg (by
      have : (e == 0) = false := by simpa using he
      rw [this]; cases decide (c < (inks.length : Int)) <;> simp)]
  by_cases h : (chkLeg m l).2 = 0
  · obtain ⟨g, gl⟩ := chkLeg_good.1 h
    have hl : l.length ≤ 5 := by have := g.b1; have := gl.len; omega
    have hi0 := g.i0
    have hi1 := g.i1
    rw [if_pos h, h]
    simp only [beq_self_eq_true, cond_true]
    rw [w64_id (by omega) (by omega)]
    by_cases hn : inks.length = l.length + 1
    · rw [if_neg (by simp; omega), if_pos hn, Option.bind_some, outK_inr]
      have key : ∀ (suf pre : List Int) (n : Nat) (c : Int), inks = pre ++ suf → c = pre.length → suf.length < n → F73L1 m inks n (0, c) = some (.inr (if suf.any (badInk m) then 4 else 0)) := by
        intro suf
        induction suf with
        | nil =>
          intro pre n c he hc hn'
          obtain ⟨n, rfl⟩ : ∃ m, n = m + 1 := ⟨n - 1, by simp at hn'; omega⟩
          rw [F73L1, if_neg (by rw [he]; simp; omega)]; rfl
        | cons x suf ih =>
          intro pre n c he hc hn'
          simp only [List.length_cons] at hn'
          obtain ⟨n, rfl⟩ : ∃ m, n = m + 1 := ⟨n - 1, by omega⟩
          have hlen : inks.length = pre.length + (suf.length + 1) := by rw [he]; simp
          have hix : idx inks c = some x := by rw [he]; exact idx_mid hc
          rw [F73L1, if_pos (by simp; omega)]
          dsimp only
          rw [hix, Option.bind_some, w64_id (by omega) (by omega), e61, Option.bind_some, w64_id (by omega) (by omega), List.any_cons]
          have hb : (!okN 0 (m.Inks - 1) x) = badInk m x := by
            rw [Bool.eq_iff_iff]; simp [okN, badInk]
          rw [hb]
          cases hb2 : badInk m x with
          | true =>
            rw [if_pos rfl, stop n 4 _ (by omega) (by omega)]; simp
          | false => rw [if_neg (by simp), ih (pre ++ [x]) n (c + 1) (by simp [he]) (by simp; omega) (by omega), Bool.false_or]
      rw [key inks [] k 0 rfl rfl (by omega), Option.bind_some, outK_inr]
    · rw [if_pos (by simp; omega), if_neg hn, Option.bind_some, outK_inr, stop k 3 0 (by omega) (by omega), Option.bind_some, outK_inr]
  · rw [if_neg (by
      have : ((chkLeg m l).2 == 0) = false := by simpa using h
      rw [this]; simp), if_neg h, Option.bind_some, outK_inr, stop k _ 0 (by omega) h, Option.bind_some, outK_inr]

/-- A side is mistaken. -/
def wrongB (m : Mp) (l inks : List Int) (s : Pr) : Bool := anyN (fun a => anyN (fun b => likeB m inks[a]! inks[b]! && besideB (alls m l) s a b) a 0) inks.length 0
theorem wrongB_iff {m : Mp} {l inks : List Int} {s : Pr} : wrongB m l inks s = true ↔ ∃ a b : Nat, b < a ∧ a < inks.length ∧ likeB m inks[a]! inks[b]! = true ∧ besideB (alls m l) s a b = true := by
  unfold wrongB
  rw [anyN_iff]
  constructor
  · rintro ⟨a, _, h1, h2⟩
    obtain ⟨b, _, h3, h4⟩ := (anyN_iff _ _).1 h2
    rw [Bool.and_eq_true] at h4
    exact ⟨a, b, by omega, by omega, h4⟩
  · rintro ⟨a, b, h1, h2, h3⟩
    exact ⟨a, by omega, by omega, (anyN_iff _ _).2 ⟨b, by omega, by omega, by rw [Bool.and_eq_true]; exact h3⟩⟩
theorem e74 {k : Nat} (hk : 20 ≤ k) {m : Mp} (g : GoodM m) {l inks : List Int} (hl : l.length ≤ 5) (hn : inks.length ≤ 6) {s : Pr} (hs : s ∈ m.Sides) : F74 k m l inks s = some (wrongB m l inks s) := by
  have hsid := g.sid s hs
  have hlk := g.l1
  have hal : (alls m l).length = m.Heights.length := by simp [alls]
  unfold F74 wrongB
  rw [e65 hk g.h1 hl, Option.bind_some]
  have e := any_loopN (N := inks.length) (L := F74L1 k m inks s (alls m l)) (p := fun a => anyN (fun b => likeB m inks[a]! inks[b]! && besideB (alls m l) s a b) a 0) (r := true)
    (fun n c h => by rw [F74L1, if_neg (by simpa using h)])
    (fun n a ha => by
      rw [F74L1, if_pos (by simpa using ha)]
      have e2 := any_loopN (N := a) (L := F74L2 k m inks s (alls m l) (a : Int)) (p := fun b => likeB m inks[a]! inks[b]! && besideB (alls m l) s a b) (r := true)
        (fun n c h => by rw [F74L2, if_neg (by simpa using h)])
        (fun n b hb => by
          rw [F74L2, if_pos (by simpa using hb), idx_nat (by omega), Option.bind_some, idx_nat (by omega), Option.bind_some, e49 (by omega) (by omega), Option.bind_some, w64_id (by omega) (by omega)]
          cases likeB m inks[a]! inks[b]! with
          | false => rfl
          | true => rw [optG_true, e84 (by omega) (by omega), Option.bind_some]; rfl) a k 0 (by omega) (by omega)
      rw [Int.natCast_zero] at e2
      rw [e2, Option.bind_some, w64_id (by omega) (by omega)]
      cases anyN (fun b => likeB m inks[a]! inks[b]! && besideB (alls m l) s a b) a 0 <;> rfl) inks.length k 0 (by omega) (by omega)
  rw [Int.natCast_zero] at e
  rw [e, Option.bind_some]
  cases anyN (fun a => anyN (fun b => likeB m inks[a]! inks[b]! && besideB (alls m l) s a b) a 0) inks.length 0 <;> rfl

def wrongs (p : Pr → Bool) : List Pr → Int → List Int
  | [], _ => []
  | s :: ss, i => if p s then i :: wrongs p ss (i + 1) else wrongs p ss (i + 1)
theorem wrongs_len (p : Pr → Bool) : ∀ (l : List Pr) (i : Int), (wrongs p l i).length ≤ l.length := by
  intro l
  induction l with
  | nil => intro i; simp [wrongs]
  | cons s ss ih => intro i; have := ih (i + 1); rw [wrongs]; split <;> simp <;> omega
theorem coll_loop {l : List Pr} {L : Nat → (Int × List Int) → Option ((List Int × Int) ⊕ List Int)} {p : Pr → Bool} (hl : l.length ≤ 10)
    (h0 : ∀ n c acc, ¬ c < (l.length : Int) → L (n + 1) (c, acc) = some (.inr acc))
    (h1 : ∀ n c acc x, x ∈ l → 0 ≤ c → c < (l.length : Int) → idx l c = some x → acc.length ≤ 10 → L (n + 1) (c, acc) = if p x then L n (c + 1, acc ++ [c]) else L n (c + 1, acc)) :
    ∀ (suf pre : List Pr) (n : Nat) (c : Int) (acc : List Int), l = pre ++ suf → c = pre.length → suf.length < n → acc.length ≤ pre.length → L n (c, acc) = some (.inr (acc ++ wrongs p suf c)) := by
  intro suf
  induction suf with
  | nil =>
    intro pre n c acc he hc hn ha
    obtain ⟨n, rfl⟩ : ∃ m, n = m + 1 := ⟨n - 1, by simp at hn; omega⟩
    rw [h0 n c acc (by rw [he]; simp; omega)]; simp [wrongs]
  | cons x suf ih =>
    intro pre n c acc he hc hn ha
    simp only [List.length_cons] at hn
    obtain ⟨n, rfl⟩ : ∃ m, n = m + 1 := ⟨n - 1, by omega⟩
    have hlen : l.length = pre.length + (suf.length + 1) := by rw [he]; simp
    rw [h1 n c acc x (by rw [he]; simp) (by omega) (by omega) (by rw [he]; exact idx_mid hc) (by omega), wrongs]
    cases p x with
    | true =>
      rw [if_pos rfl, if_pos rfl, ih (pre ++ [x]) n (c + 1) _ (by simp [he]) (by simp; omega) (by omega) (by simp; omega), List.append_assoc]; rfl
    | false => rw [if_neg (by simp), if_neg (by simp), ih (pre ++ [x]) n (c + 1) _ (by simp [he]) (by simp; omega) (by omega) (by simp; omega)]

def mist (m : Mp) (l inks : List Int) : List Int × Int := if inksE m l inks = 0 then (wrongs (wrongB m l inks) m.Sides 0, 0) else ([], inksE m l inks)
theorem inksE_good {m : Mp} {l inks : List Int} : inksE m l inks = 0 ↔ GoodM m ∧ GoodL m l ∧ inks.length = l.length + 1 ∧ ∀ x ∈ inks, 0 ≤ x ∧ x < m.Inks := by
  unfold inksE
  by_cases h : (chkLeg m l).2 = 0
  · rw [if_pos h]
    have hg := chkLeg_good.1 h
    by_cases hn : inks.length = l.length + 1
    · rw [if_pos hn]
      cases hb : inks.any (badInk m) with
      | true =>
        rw [if_pos rfl]
        obtain ⟨x, hx, h2⟩ := List.any_eq_true.1 hb
        refine ⟨fun h => by omega, fun h => ?_⟩
        have := h.2.2.2 x hx
        simp only [badInk, Bool.or_eq_true, decide_eq_true_eq] at h2
        omega
      | false =>
        rw [if_neg (by simp)]
        refine ⟨fun _ => ⟨hg.1, hg.2, hn, fun x hx => ?_⟩, fun _ => rfl⟩
        have := List.any_eq_false.1 hb x hx
        simp only [badInk, Bool.or_eq_true, decide_eq_true_eq] at this
        omega
    · rw [if_neg hn]
      exact ⟨fun h => by omega, fun h => absurd h.2.2.1 hn⟩
  · rw [if_neg h]
    exact ⟨fun h2 => absurd h2 h, fun h2 => chkLeg_good.2 ⟨h2.1, h2.2.1⟩⟩
theorem e34 {k : Nat} (hk : 20 ≤ k) {m : Mp} {l inks : List Int} : F34 k m l inks = some (mist m l inks) := by
  unfold F34 mist
  rw [e73 hk, Option.bind_some]
  by_cases h : inksE m l inks = 0
  · obtain ⟨g, gl, hn, hb⟩ := inksE_good.1 h
    have hl : l.length ≤ 5 := by have := g.b1; have := gl.len; omega
    have hs1 := g.s1
    rw [if_neg (by simpa using h), if_pos h, coll_loop (l := m.Sides) (L := F34L1 k m l inks) (p := wrongB m l inks) g.s1
      (fun n c acc hc => by rw [F34L1, if_neg (by simpa using hc)])
      (fun n c acc x hx hc0 hc1 hi ha => by
        rw [F34L1, if_pos (by simpa using hc1)]
        dsimp only
        rw [hi, Option.bind_some, e74 hk g hl (by omega) hx, Option.bind_some, w64_id (by omega) (by omega), need_true (by simp; omega), Option.bind_some]) m.Sides [] k 0 [] rfl rfl (by omega) (by simp), Option.bind_some, outK_inr, List.nil_append]
  · rw [if_pos (by simpa using h), if_neg h]
end Go.Proofs.Ytpkhbbboedoldaa
