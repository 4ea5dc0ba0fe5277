/- What the functions of chapter 09 come to, in plain words: out, Check. -/
import Derived.Test.YtpkhbbboedoldaaX3
import Derived.Test.YtpkhbbboedoldaaDE
import Derived.Test.YtpkhbbboedoldaaDQ
import Derived.Test.YtpkhbbboedoldaaDH
namespace Go.Proofs.Ytpkhbbboedoldaa
open Go Go.Sx
set_option linter.all false

abbrev Sp := S_api_Span
abbrev Pr := S_api_ClPair
abbrev Mp := S_api_ClMap

theorem e80 (n lo hi : Int) : F80 n lo hi = some (decide (n < lo) || decide (n > hi)) := by
  unfold F80; cases decide (n < lo) <;> rfl

theorem e90L1 {lo hi : Int} : ∀ (suf pre : List Int) (n : Nat) (c : Int), c = pre.length → (pre ++ suf).length < 2 ^ 62 → suf.length < n →
    ∃ o, F90L1 (pre ++ suf) lo hi n c = some o ∧ ((suf.any (fun n => decide (n < lo) || decide (n > hi)) = true ∧ ∃ i, o = .inl i ∧ 0 ≤ i) ∨ (suf.any (fun n => decide (n < lo) || decide (n > hi)) = false ∧ o = .inr ())) := by
  intro suf
  induction suf with
  | nil =>
    intro pre n c hc hl hn
    obtain ⟨n, rfl⟩ : ∃ m, n = m + 1 := ⟨n - 1, by simp at hn; omega⟩
    rw [F90L1, if_neg (by simp; omega)]
    exact ⟨_, rfl, .inr ⟨rfl, rfl⟩⟩
  | cons x suf ih =>
    intro pre n c hc hl hn
    obtain ⟨n, rfl⟩ : ∃ m, n = m + 1 := ⟨n - 1, by simp at hn; omega⟩
    simp only [List.length_append, List.length_cons] at hl hn
    rw [F90L1, if_pos (by simp; omega), idx_mid hc, Option.bind_some, e80, Option.bind_some, List.any_cons]
    cases hb : (decide (x < lo) || decide (x > hi)) with
    | true => simp only [if_true]; exact ⟨_, rfl, .inl ⟨rfl, c, rfl, by omega⟩⟩
    | false =>
      simp only [Bool.false_eq_true, if_false, Bool.false_or]
      rw [w64_id (by omega) (by omega)]
      have := ih (pre ++ [x]) n (c + 1) (by simp; omega) (by simp; omega) (by omega)
      simpa using this

theorem e52 {k : Nat} {l : List Int} {lo hi : Int} (hk : l.length < k) (hl : l.length < 2 ^ 62) : F52 k lo hi l = some (l.any fun n => decide (n < lo) || decide (n > hi)) := by
  unfold F52 F79 F90
  obtain ⟨o, h1, h2⟩ := e90L1 (lo := lo) (hi := hi) l [] k 0 rfl (by simpa using hl) hk
  rw [List.nil_append] at h1
  rw [h1]
  rcases h2 with ⟨h2, i, rfl, hi⟩ | ⟨h2, rfl⟩
  · simp [outK, h2, hi]
  · simp [outK, h2]

/-- A number is from lo to hi. -/
def okN (lo hi n : Int) : Bool := decide (lo ≤ n) && decide (n ≤ hi)
theorem e52_1 {k : Nat} {lo hi a : Int} (hk : 2 ≤ k) : F52 k lo hi [a] = some (!okN lo hi a) := by
  rw [e52 (by simp; omega) (by simp)]
  congr 1
  rw [Bool.eq_iff_iff]; simp [okN]
theorem e52_2 {k : Nat} {lo hi a b : Int} (hk : 3 ≤ k) : F52 k lo hi [a, b] = some (!(okN lo hi a && okN lo hi b)) := by
  rw [e52 (by simp; omega) (by simp)]
  congr 1
  rw [Bool.eq_iff_iff]; simp [okN]

/-- The error of a span. -/
def spanE (wide : Int) (s : Sp) : Int := if okN 0 9000 s.Lo && okN 0 9000 s.Hi then (if okN s.Lo (s.Lo + wide) s.Hi then 0 else 2) else 7
theorem e55 {k : Nat} (hk : 3 ≤ k) {s : Sp} {wide : Int} (h0 : 0 ≤ wide) (h1 : wide ≤ 9000) : F55 k s wide = some (spanE wide s) := by
  unfold F55 spanE
  rw [e52_2 hk, Option.bind_some]
  cases hb : (okN 0 9000 s.Lo && okN 0 9000 s.Hi) with
  | false => rfl
  | true =>
    simp only [okN, Bool.and_eq_true, decide_eq_true_eq] at hb
    simp only [Bool.not_true, Bool.false_eq_true, if_false, if_true]
    rw [w64_id (by omega) (by omega), e52_1 (by omega), Option.bind_some]
    cases okN s.Lo (s.Lo + wide) s.Hi <;> rfl
/-- The error of a pair of numbers. -/
def pairE (below : Int) (p : Pr) : Int := if okN 0 (below - 1) p.A && okN 0 (below - 1) p.B then (if p.A == p.B then 2 else 0) else 4
theorem e59 {k : Nat} (hk : 3 ≤ k) {p : Pr} {below : Int} (h0 : -2 ^ 62 ≤ below) (h1 : below ≤ 2 ^ 62) : F59 k p below = some (pairE below p) := by
  unfold F59 pairE
  rw [w64_id (by omega) (by omega), e52_2 hk, Option.bind_some]
  cases (okN 0 (below - 1) p.A && okN 0 (below - 1) p.B) with
  | false => rfl
  | true =>
    simp only [Bool.not_true, Bool.false_eq_true, if_false, if_true]
    cases p.A == p.B <;> rfl

/-- The first thing with an error. -/
def fstE {α : Type} (g : α → Int) : List α → Int → (Int × Int) ⊕ Unit
  | [], _ => .inr ()
  | x :: xs, i => if g x != 0 then .inl (i, g x) else fstE g xs (i + 1)
def outE (o : (Int × Int) ⊕ Unit) : Int × Int := match o with | .inl p => p | .inr _ => (0, 0)
theorem fst_loop {α : Type} {l : List α} {L : Nat → Int → Option ((Int × Int) ⊕ Unit)} {f : α → Option Int} {g : α → Int} (hf : ∀ x ∈ l, f x = some (g x)) (h62 : l.length < 2 ^ 62)
    (hL : ∀ n c, L (n + 1) c = if (decide (c < (l.length : Int))) then ((idx l c).bind fun x => (f x).bind fun e => if (e != 0) then (some (.inl (c, e))) else (L n (w64 (c + 1)))) else (some (.inr ()))) :
    ∀ (suf pre : List α) (n : Nat) (c : Int), l = pre ++ suf → c = pre.length → suf.length < n → L n c = some (fstE g suf c) := by
  intro suf
  induction suf with
  | nil =>
    intro pre n c hl hc hn
    obtain ⟨n, rfl⟩ : ∃ m, n = m + 1 := ⟨n - 1, by simp at hn; omega⟩
    rw [hL, if_neg (by rw [hl]; simp; omega)]; rfl
  | cons x suf ih =>
    intro pre n c hl hc hn
    obtain ⟨n, rfl⟩ : ∃ m, n = m + 1 := ⟨n - 1, by simp at hn; omega⟩
    have hlen : l.length = pre.length + (suf.length + 1) := by rw [hl]; simp
    simp only [List.length_cons] at hn
    rw [hL, if_pos (by simp; omega)]
    rw [show idx l c = some x by rw [hl]; exact idx_mid hc, Option.bind_some, hf x (by rw [hl]; simp), Option.bind_some, fstE]
    cases g x != 0 with
    | true => rfl
    | false =>
      simp only [Bool.false_eq_true, if_false]
      rw [w64_id (by omega) (by omega)]
      exact ih (pre ++ [x]) n (c + 1) (by simp [hl]) (by simp; omega) (by omega)

theorem e53 {k : Nat} (hk : 3 ≤ k) {l : List Sp} (hl : l.length < k) (h62 : l.length < 2 ^ 62) : F53 k l = some (outE (fstE (spanE 20) l 0)) := by
  unfold F53
  rw [fst_loop (L := F53L1 k l) (f := F54 k) (g := spanE 20) (fun x _ => by unfold F54; rw [e55 hk (by omega) (by omega)]; rfl) h62 (fun n c => rfl) l [] k 0 rfl rfl hl, Option.bind_some]
  cases fstE (spanE 20) l 0 <;> rfl
theorem e53v {k : Nat} (hk : 3 ≤ k) {l : List Sp} (hl : l.length < k) (h62 : l.length < 2 ^ 62) : F53v1 k l = some (outE (fstE (spanE 9000) l 0)) := by
  unfold F53v1
  rw [fst_loop (L := F53v1L1 k l) (f := F56 k) (g := spanE 9000) (fun x _ => by unfold F56; rw [e55 hk (by omega) (by omega)]; rfl) h62 (fun n c => rfl) l [] k 0 rfl rfl hl, Option.bind_some]
  cases fstE (spanE 9000) l 0 <;> rfl
theorem e57 {k : Nat} (hk : 3 ≤ k) {l : List Pr} (hl : l.length < k) (h62 : l.length < 2 ^ 62) {b0 : List Sp} {b1 : Int} {b2 : List Sp} {b3 : List Pr} {b4 : Int} {b5 : List Pr} (hb : b2.length < 2 ^ 62) :
    F57 k l b0 b1 b2 b3 b4 b5 = some (outE (fstE (pairE b2.length) l 0)) := by
  unfold F57
  rw [fst_loop (L := F57L1 k l b0 b1 b2 b3 b4 b5) (f := fun x => F58 k x b0 b1 b2 b3 b4 b5) (g := pairE b2.length) (fun x _ => by unfold F58; rw [e59 hk (by omega) (by omega)]; rfl) h62 (fun n c => rfl) l [] k 0 rfl rfl hl, Option.bind_some]
  cases fstE (pairE b2.length) l 0 <;> rfl
theorem e57v {k : Nat} (hk : 3 ≤ k) {l : List Pr} (hl : l.length < k) (h62 : l.length < 2 ^ 62) {b0 : List Sp} {b1 : Int} {b2 : List Sp} {b3 : List Pr} {b4 : Int} {b5 : List Pr} (h0 : -2 ^ 62 ≤ b4) (h1 : b4 ≤ 2 ^ 62) :
    F57v1 k l b0 b1 b2 b3 b4 b5 = some (outE (fstE (pairE b4) l 0)) := by
  unfold F57v1
  rw [fst_loop (L := F57v1L1 k l b0 b1 b2 b3 b4 b5) (f := fun x => F60 k x b0 b1 b2 b3 b4 b5) (g := pairE b4) (fun x _ => by unfold F60; rw [e59 hk h0 h1]; rfl) h62 (fun n c => rfl) l [] k 0 rfl rfl hl, Option.bind_some]
  cases fstE (pairE b4) l 0 <;> rfl

/-- Whether the parts of a map are neither too long nor too short; and its numbers. -/
def longM (m : Mp) : Bool := okN 1 5 m.Borders.length && okN 1 8 m.Heights.length && decide (m.Sides.length ≤ 10) && decide (m.Like.length ≤ 8)
def numsM (m : Mp) : Bool := okN 1 1000 m.Step && okN 1 6 m.Inks
def chk (m : Mp) : Int × Int × Int :=
  if longM m then (if numsM m then
    (match fstE (spanE 20) m.Borders 0 with
     | .inl p => (2, p)
     | .inr _ => match fstE (spanE 9000) m.Heights 0 with
       | .inl p => (3, p)
       | .inr _ => match fstE (pairE m.Heights.length) m.Sides 0 with
         | .inl p => (4, p)
         | .inr _ => match fstE (pairE m.Inks) m.Like 0 with
           | .inl p => (5, p)
           | .inr _ => (0, 0, 0)) else (1, 0, 7)) else (1, 0, 3)

theorem fstE_ne {α : Type} (g : α → Int) : ∀ (l : List α) (i : Int) p, fstE g l i = .inl p → (p.2 != 0) = true := by
  intro l
  induction l with
  | nil => intro i p h; simp [fstE] at h
  | cons x xs ih =>
    intro i p h
    simp only [fstE] at h
    split at h
    · rename_i hx; simp only [Sum.inl.injEq] at h; subst h; exact hx
    · exact ih _ _ h

theorem e17 {k : Nat} (hk : 20 ≤ k) {m : Mp} : F17 k m = some (chk m) := by
  unfold F17 chk
  rw [e52_1 (by omega), Option.bind_some]
  have e2 : optG (!(!okN 1 5 (m.Borders.length : Int))) (F52 k 1 8 [(m.Heights.length : Int)]) = some (cond (okN 1 5 (m.Borders.length : Int)) (!okN 1 8 (m.Heights.length : Int)) default) := by
    rw [Bool.not_not]
    cases okN 1 5 (m.Borders.length : Int) with
    | true => rw [optG_true, e52_1 (by omega)]; rfl
    | false => rfl
  rw [e2, Option.bind_some]
  have e3 : (cond (cond (cond (!okN 1 5 (m.Borders.length : Int)) true (cond (okN 1 5 (m.Borders.length : Int)) (!okN 1 8 (m.Heights.length : Int)) default)) true (decide ((m.Sides.length : Int) > 10))) true (decide ((m.Like.length : Int) > 8))) = !longM m := by
    unfold longM
    have h3 : decide ((m.Sides.length : Int) > 10) = !decide (m.Sides.length ≤ 10) := by rw [Bool.eq_iff_iff]; simp; omega
    have h4 : decide ((m.Like.length : Int) > 8) = !decide (m.Like.length ≤ 8) := by rw [Bool.eq_iff_iff]; simp; omega
    rw [h3, h4]
    cases okN 1 5 (m.Borders.length : Int) <;> cases okN 1 8 (m.Heights.length : Int) <;> cases decide (m.Sides.length ≤ 10) <;> cases decide (m.Like.length ≤ 8) <;> rfl
  rw [e3]
  cases hl : longM m with
  | false => rfl
  | true =>
    simp only [longM, okN, Bool.and_eq_true, decide_eq_true_eq] at hl
    obtain ⟨⟨⟨l1, l2⟩, l3⟩, l4⟩ := hl
    simp only [Bool.not_true, Bool.false_eq_true, if_false, if_true]
    rw [e52_1 (by omega), Option.bind_some]
    have e4 : optG (!(!okN 1 1000 m.Step)) (F52 k 1 6 [m.Inks]) = some (cond (okN 1 1000 m.Step) (!okN 1 6 m.Inks) default) := by
      rw [Bool.not_not]
      cases okN 1 1000 m.Step with
      | true => rw [optG_true, e52_1 (by omega)]; rfl
      | false => rfl
    rw [e4, Option.bind_some]
    have e5 : (cond (!okN 1 1000 m.Step) true (cond (okN 1 1000 m.Step) (!okN 1 6 m.Inks) default)) = !numsM m := by
      unfold numsM
      cases okN 1 1000 m.Step <;> cases okN 1 6 m.Inks <;> rfl
    rw [e5]
    cases hn : numsM m with
    | false => rfl
    | true =>
      simp only [numsM, okN, Bool.and_eq_true, decide_eq_true_eq] at hn
      simp only [Bool.not_true, Bool.false_eq_true, if_false, if_true]
      rw [e53 (by omega) (by omega) (by omega), Option.bind_some]
      cases h1 : fstE (spanE 20) m.Borders 0 with
      | inl p => simp only [outE, fstE_ne _ _ _ _ h1, if_true]
      | inr u =>
        simp only [outE, bne_self_eq_false, Bool.false_eq_true, if_false]
        rw [e53v (by omega) (by omega) (by omega), Option.bind_some]
        cases h2 : fstE (spanE 9000) m.Heights 0 with
        | inl p => simp only [outE, fstE_ne _ _ _ _ h2, if_true]
        | inr u =>
          simp only [outE, bne_self_eq_false, Bool.false_eq_true, if_false]
          rw [e57 (by omega) (by omega) (by omega) (by omega), Option.bind_some]
          cases h3 : fstE (pairE m.Heights.length) m.Sides 0 with
          | inl p => simp only [outE, fstE_ne _ _ _ _ h3, if_true]
          | inr u =>
            simp only [outE, bne_self_eq_false, Bool.false_eq_true, if_false]
            rw [e57v (by omega) (by omega) (by omega) (by omega) (by omega), Option.bind_some]
            cases h4 : fstE (pairE m.Inks) m.Like 0 with
            | inl p => simp only [outE, fstE_ne _ _ _ _ h4, if_true]
            | inr u => rfl
end Go.Proofs.Ytpkhbbboedoldaa
namespace Go.Proofs.Ytpkhbbboedoldaa
open Go Go.Sx
set_option linter.all false

theorem e61 (n lo hi : Int) : F61 n lo hi = some (okN lo hi n) := by
  unfold F61 okN; cases h : decide (n ≥ lo) <;> simp_all
theorem e91 (n lo hi : Int) : F91 n lo hi = some (okN lo hi n) := by
  unfold F91 okN; cases h : decide (n ≥ lo) <;> simp_all

/-- The error of a span, of the reference. -/
def rangeE (s : Sp) : Int := if okN 0 9000 s.Lo && okN 0 9000 s.Hi then (if decide (s.Lo > s.Hi) then 2 else 0) else 7
theorem e62 {k : Nat} (hk : 2 ≤ k) {s : Sp} : F62 k s 0 9000 = some (rangeE s) := by
  obtain ⟨n, rfl⟩ : ∃ n, k = n + 2 := ⟨k - 2, by omega⟩
  unfold F62 F81 rangeE
  rw [F81L1]
  have hi : idx [s] 0 = some s := rfl
  have h0 : decide ((0 : Int) < (([s] : List S_api_Span).length : Int)) = true := by simp
  simp only [h0, if_true, hi, Option.bind_some, e91]
  cases h1 : okN 0 9000 s.Lo with
  | false => rfl
  | true =>
    simp only [Bool.not_true, Bool.not_false, optG_true, Option.bind_some, e91]
    cases h2 : okN 0 9000 s.Hi with
    | false => rfl
    | true =>
      have hw : w64 (0 + 1) = 1 := by decide
      have hl : ∀ c, F81L1 [s] 0 9000 (n + 1) (c, 1) = some (.inr c) := by
        intro c
        rw [F81L1]
        have h0 : decide ((1 : Int) < (([s] : List S_api_Span).length : Int)) = false := by simp
        simp [h0]
      simp only [Bool.not_true, cond_false, Bool.false_eq_true, if_false, hw, hl, Bool.and_self, if_true]
      cases decide (s.Lo > s.Hi) <;> rfl
theorem range20 (s : Sp) : spanE 20 s = (if (rangeE s == 0) && decide (s.Hi > s.Lo + 20) then 2 else rangeE s) := by
  unfold spanE rangeE okN
  by_cases h1 : 0 ≤ s.Lo <;> by_cases h2 : s.Lo ≤ 9000 <;> by_cases h3 : 0 ≤ s.Hi <;> by_cases h4 : s.Hi ≤ 9000 <;> simp [h1, h2, h3, h4]
  by_cases h5 : s.Hi < s.Lo
  · simp [h5, show ¬ s.Lo ≤ s.Hi by omega]
  · by_cases h6 : s.Lo + 20 < s.Hi
    · simp [h5, h6, show s.Lo ≤ s.Hi by omega, show ¬ s.Hi ≤ s.Lo + 20 by omega]
    · simp [h5, h6, show s.Lo ≤ s.Hi by omega, show s.Hi ≤ s.Lo + 20 by omega]
theorem range9000 (s : Sp) : spanE 9000 s = rangeE s := by
  unfold spanE rangeE okN
  by_cases h1 : 0 ≤ s.Lo <;> by_cases h2 : s.Lo ≤ 9000 <;> by_cases h3 : 0 ≤ s.Hi <;> by_cases h4 : s.Hi ≤ 9000 <;> simp [h1, h2, h3, h4]
  by_cases h5 : s.Hi < s.Lo
  · simp [h5, show ¬ s.Lo ≤ s.Hi by omega]
  · simp [h5, show s.Lo ≤ s.Hi by omega, show s.Hi ≤ s.Lo + 9000 by omega]
theorem e63 {p : Pr} {below : Int} (h0 : -2 ^ 62 ≤ below) (h1 : below ≤ 2 ^ 62) : F63 p below = some (pairE below p) := by
  unfold F63 pairE
  rw [w64_id (by omega) (by omega), e61, Option.bind_some, e61]
  cases okN 0 (below - 1) p.A with
  | false => rfl
  | true =>
    simp only [Bool.not_true, Bool.not_false, optG_true, Option.bind_some, cond_false]
    cases okN 0 (below - 1) p.B with
    | false => rfl
    | true =>
      simp only [Bool.not_true, Bool.false_eq_true, if_false, if_true, Bool.and_self]
      cases p.A == p.B <;> rfl

def tag (p : Int) (o : (Int × Int) ⊕ Unit) : (Int × Int × Int) ⊕ Unit := match o with | .inl q => .inl (p, q) | .inr u => .inr u
theorem tag_loop {α : Type} {l : List α} {p : Int} {L : Nat → Int → Option ((Int × Int × Int) ⊕ Unit)} {f : α → Option Int} {g : α → Int} (hf : ∀ x ∈ l, f x = some (g x)) (h62 : l.length < 2 ^ 62)
    (hL : ∀ n c, c < 2 ^ 62 → L (n + 1) c = if (decide (c < (l.length : Int))) then ((idx l c).bind fun x => (f x).bind fun e => if (e != 0) then (some (.inl (p, c, e))) else (L n (w64 (c + 1)))) else (some (.inr ()))) :
    ∀ (suf pre : List α) (n : Nat) (c : Int), l = pre ++ suf → c = pre.length → suf.length < n → L n c = some (tag p (fstE g suf c)) := by
  intro suf
  induction suf with
  | nil =>
    intro pre n c hl hc hn
    obtain ⟨n, rfl⟩ : ∃ m, n = m + 1 := ⟨n - 1, by simp at hn; omega⟩
    have : l.length = pre.length := by rw [hl]; simp
    rw [hL _ _ (by omega), if_neg (by rw [hl]; simp; omega)]; rfl
  | cons x suf ih =>
    intro pre n c hl hc hn
    obtain ⟨n, rfl⟩ : ∃ m, n = m + 1 := ⟨n - 1, by simp at hn; omega⟩
    have hlen : l.length = pre.length + (suf.length + 1) := by rw [hl]; simp
    simp only [List.length_cons] at hn
    rw [hL _ _ (by omega), if_pos (by simp; omega)]
    rw [show idx l c = some x by rw [hl]; exact idx_mid hc, Option.bind_some, hf x (by rw [hl]; simp), Option.bind_some, fstE]
    cases g x != 0 with
    | true => rfl
    | false =>
      simp only [Bool.false_eq_true, if_false]
      rw [w64_id (by omega) (by omega)]
      exact ih (pre ++ [x]) n (c + 1) (by simp [hl]) (by simp; omega) (by omega)

theorem e18L1 {k : Nat} (hk : 20 ≤ k) {m : Mp} (h : m.Borders.length ≤ 5) : F18L1 k m k 0 = some (tag 2 (fstE (spanE 20) m.Borders 0)) := by
  refine tag_loop (l := m.Borders) (L := F18L1 k m) (f := fun s => some (spanE 20 s)) (fun _ _ => rfl) (by omega) ?_ m.Borders [] k 0 rfl rfl (by omega)
  intro n c hc
  rw [F18L1]
  by_cases h0 : c < (m.Borders.length : Int)
  · simp only [h0, decide_true, if_true]
    cases hx : idx m.Borders c with
    | none => rfl
    | some s =>
      simp only [Option.bind_some]
      rw [e62 (by omega), Option.bind_some]
      rw [range20]
      cases h1 : (rangeE s == 0) with
      | false =>
        simp only [optG_false, Option.bind_some, cond_false, Bool.false_eq_true, if_false, Bool.false_and, outK_inr]
      | true =>
        have hs : 0 ≤ s.Lo ∧ s.Lo ≤ 9000 := by
          unfold rangeE okN at h1
          by_cases q : 0 ≤ s.Lo ∧ s.Lo ≤ 9000
          · exact q
          · have : (decide (0 ≤ s.Lo) && decide (s.Lo ≤ 9000)) = false := by simp; omega
            simp [this] at h1
        simp only [optG_true, Option.bind_some, cond_true, Bool.true_and]
        rw [w64_id (by omega) (by omega)]
        cases decide (s.Hi > s.Lo + 20) <;> simp only [Bool.false_eq_true, if_false, if_true, Option.bind_some, outK_inr]
  · simp only [h0, decide_false, Bool.false_eq_true, if_false]
theorem e18L2 {k : Nat} (hk : 20 ≤ k) {m : Mp} (h : m.Heights.length ≤ 8) : F18L2 k m k 0 = some (tag 3 (fstE (spanE 9000) m.Heights 0)) := by
  refine tag_loop (l := m.Heights) (L := F18L2 k m) (f := fun s => F62 k s 0 9000) (fun x _ => by rw [e62 (by omega), range9000]) (by omega) (fun n c _ => rfl) m.Heights [] k 0 rfl rfl (by omega)
theorem e18L3 {k : Nat} (hk : 20 ≤ k) {m : Mp} (h : m.Sides.length ≤ 10) (hh : m.Heights.length ≤ 8) : F18L3 m k 0 = some (tag 4 (fstE (pairE m.Heights.length) m.Sides 0)) := by
  refine tag_loop (l := m.Sides) (L := F18L3 m) (f := fun s => F63 s (m.Heights.length : Int)) (fun x _ => e63 (by omega) (by omega)) (by omega) (fun n c _ => rfl) m.Sides [] k 0 rfl rfl (by omega)
theorem e18L4 {k : Nat} (hk : 20 ≤ k) {m : Mp} (h : m.Like.length ≤ 8) (h1 : 1 ≤ m.Inks) (h2 : m.Inks ≤ 6) : F18L4 m k 0 = some (tag 5 (fstE (pairE m.Inks) m.Like 0)) := by
  refine tag_loop (l := m.Like) (L := F18L4 m) (f := fun s => F63 s m.Inks) (fun x _ => e63 (by omega) (by omega)) (by omega) (fun n c _ => rfl) m.Like [] k 0 rfl rfl (by omega)

theorem e18 {k : Nat} (hk : 20 ≤ k) {m : Mp} : F18 k m = some (chk m) := by
  unfold F18 chk
  rw [e61, Option.bind_some, e61]
  have e2 : optG (!(!okN 1 5 (m.Borders.length : Int))) (some (okN 1 8 (m.Heights.length : Int))) = some (cond (okN 1 5 (m.Borders.length : Int)) (okN 1 8 (m.Heights.length : Int)) default) := by
    cases okN 1 5 (m.Borders.length : Int) <;> rfl
  rw [e2, Option.bind_some]
  have e3 : (cond (cond (cond (!okN 1 5 (m.Borders.length : Int)) true (!(cond (okN 1 5 (m.Borders.length : Int)) (okN 1 8 (m.Heights.length : Int)) default))) true (decide ((m.Sides.length : Int) > 10))) true (decide ((m.Like.length : Int) > 8))) = !longM m := by
    unfold longM
    have h3 : decide ((m.Sides.length : Int) > 10) = !decide (m.Sides.length ≤ 10) := by rw [Bool.eq_iff_iff]; simp; omega
    have h4 : decide ((m.Like.length : Int) > 8) = !decide (m.Like.length ≤ 8) := by rw [Bool.eq_iff_iff]; simp; omega
    rw [h3, h4]
    cases okN 1 5 (m.Borders.length : Int) <;> cases okN 1 8 (m.Heights.length : Int) <;> cases decide (m.Sides.length ≤ 10) <;> cases decide (m.Like.length ≤ 8) <;> rfl
  rw [e3]
  cases hl : longM m with
  | false => rfl
  | true =>
    simp only [longM, okN, Bool.and_eq_true, decide_eq_true_eq] at hl
    obtain ⟨⟨⟨l1, l2⟩, l3⟩, l4⟩ := hl
    simp only [Bool.not_true, Bool.false_eq_true, if_false, if_true]
    rw [e61, Option.bind_some, e61]
    have e4 : optG (!(!okN 1 1000 m.Step)) (some (okN 1 6 m.Inks)) = some (cond (okN 1 1000 m.Step) (okN 1 6 m.Inks) default) := by
      cases okN 1 1000 m.Step <;> rfl
    rw [e4, Option.bind_some]
    have e5 : (cond (!okN 1 1000 m.Step) true (!(cond (okN 1 1000 m.Step) (okN 1 6 m.Inks) default))) = !numsM m := by
      unfold numsM
      cases okN 1 1000 m.Step <;> cases okN 1 6 m.Inks <;> rfl
    rw [e5]
    cases hn : numsM m with
    | false => rfl
    | true =>
      simp only [numsM, okN, Bool.and_eq_true, decide_eq_true_eq] at hn
      simp only [Bool.not_true, Bool.false_eq_true, if_false, if_true]
      rw [e18L1 hk (by omega), Option.bind_some]
      cases h1 : fstE (spanE 20) m.Borders 0 with
      | inl p => rfl
      | inr u =>
        simp only [tag, outK_inr]
        rw [e18L2 hk (by omega), Option.bind_some]
        cases h2 : fstE (spanE 9000) m.Heights 0 with
        | inl p => rfl
        | inr u =>
          simp only [tag, outK_inr]
          rw [e18L3 hk (by omega) (by omega), Option.bind_some]
          cases h3 : fstE (pairE m.Heights.length) m.Sides 0 with
          | inl p => rfl
          | inr u =>
            simp only [tag, outK_inr]
            rw [e18L4 hk (by omega) (by omega) (by omega), Option.bind_some]
            cases h4 : fstE (pairE m.Inks) m.Like 0 with
            | inl p => rfl
            | inr u => rfl
end Go.Proofs.Ytpkhbbboedoldaa
namespace Go.Proofs.Ytpkhbbboedoldaa
open Go Go.Sx
set_option linter.all false

/-- A map without an error. -/
structure GoodM (m : Mp) : Prop where
  b0 : 1 ≤ m.Borders.length
  b1 : m.Borders.length ≤ 5
  h0 : 1 ≤ m.Heights.length
  h1 : m.Heights.length ≤ 8
  s1 : m.Sides.length ≤ 10
  l1 : m.Like.length ≤ 8
  st0 : 1 ≤ m.Step
  st1 : m.Step ≤ 1000
  i0 : 1 ≤ m.Inks
  i1 : m.Inks ≤ 6
  bor : ∀ s ∈ m.Borders, 0 ≤ s.Lo ∧ s.Lo ≤ s.Hi ∧ s.Hi ≤ 9000 ∧ s.Hi ≤ s.Lo + 20
  hei : ∀ s ∈ m.Heights, 0 ≤ s.Lo ∧ s.Lo ≤ s.Hi ∧ s.Hi ≤ 9000
  sid : ∀ p ∈ m.Sides, (0 ≤ p.A ∧ p.A < m.Heights.length) ∧ (0 ≤ p.B ∧ p.B < m.Heights.length) ∧ p.A ≠ p.B
  lik : ∀ p ∈ m.Like, (0 ≤ p.A ∧ p.A < m.Inks) ∧ (0 ≤ p.B ∧ p.B < m.Inks) ∧ p.A ≠ p.B

theorem fstE_inr {α : Type} (g : α → Int) : ∀ (l : List α) (i : Int) u, fstE g l i = .inr u → ∀ x ∈ l, g x = 0 := by
  intro l
  induction l with
  | nil => intro i u _ x hx; simp at hx
  | cons y ys ih =>
    intro i u h x hx
    simp only [fstE] at h
    split at h
    · simp at h
    · rename_i hy
      rcases List.mem_cons.1 hx with rfl | hx
      · simpa using hy
      · exact ih _ _ h x hx
theorem fstE_all {α : Type} (g : α → Int) : ∀ (l : List α) (i : Int), (∀ x ∈ l, g x = 0) → fstE g l i = .inr () := by
  intro l
  induction l with
  | nil => intro i _; rfl
  | cons y ys ih =>
    intro i h
    simp only [fstE, h y (by simp), bne_self_eq_false, Bool.false_eq_true, if_false]
    exact ih _ fun x hx => h x (by simp [hx])
theorem spanE_zero {w : Int} {s : Sp} : spanE w s = 0 ↔ 0 ≤ s.Lo ∧ s.Lo ≤ s.Hi ∧ s.Hi ≤ 9000 ∧ s.Hi ≤ s.Lo + w := by
  unfold spanE okN
  by_cases h1 : 0 ≤ s.Lo <;> by_cases h2 : s.Lo ≤ 9000 <;> by_cases h3 : 0 ≤ s.Hi <;> by_cases h4 : s.Hi ≤ 9000 <;> by_cases h5 : s.Lo ≤ s.Hi <;> by_cases h6 : s.Hi ≤ s.Lo + w <;> simp [h1, h2, h3, h4, h5, h6] <;> omega
theorem pairE_zero {n : Int} {p : Pr} : pairE n p = 0 ↔ (0 ≤ p.A ∧ p.A < n) ∧ (0 ≤ p.B ∧ p.B < n) ∧ p.A ≠ p.B := by
  unfold pairE okN
  by_cases h1 : 0 ≤ p.A <;> by_cases h2 : p.A ≤ n - 1 <;> by_cases h3 : 0 ≤ p.B <;> by_cases h4 : p.B ≤ n - 1 <;> by_cases h5 : p.A = p.B <;> simp [h1, h2, h3, h4, h5] <;> omega

theorem chk_good {m : Mp} : (chk m).2.2 = 0 ↔ GoodM m := by
  constructor
  · intro h
    unfold chk at h
    split at h
    · rename_i hl
      split at h
      · rename_i hn
        simp only [longM, numsM, okN, Bool.and_eq_true, decide_eq_true_eq] at hl hn
        cases h1 : fstE (spanE 20) m.Borders 0 with
        | inl p => simp only [h1] at h; have := fstE_ne _ _ _ _ h1; simp at this; omega
        | inr u =>
          cases h2 : fstE (spanE 9000) m.Heights 0 with
          | inl p => simp only [h1, h2] at h; have := fstE_ne _ _ _ _ h2; simp at this; omega
          | inr u =>
            cases h3 : fstE (pairE m.Heights.length) m.Sides 0 with
            | inl p => simp only [h1, h2, h3] at h; have := fstE_ne _ _ _ _ h3; simp at this; omega
            | inr u =>
              cases h4 : fstE (pairE m.Inks) m.Like 0 with
              | inl p => simp only [h1, h2, h3, h4] at h; have := fstE_ne _ _ _ _ h4; simp at this; omega
              | inr u =>
                have k1 := fstE_inr _ _ _ _ h1
                have k2 := fstE_inr _ _ _ _ h2
                have k3 := fstE_inr _ _ _ _ h3
                have k4 := fstE_inr _ _ _ _ h4
                refine ⟨by omega, by omega, by omega, by omega, by omega, by omega, by omega, by omega, by omega, by omega, fun s hs => spanE_zero.1 (k1 s hs), fun s hs => ?_, fun p hp => pairE_zero.1 (k3 p hp), fun p hp => pairE_zero.1 (k4 p hp)⟩
                have := spanE_zero.1 (k2 s hs)
                omega
      · simp at h
    · simp at h
  · intro g
    have hl : longM m = true := by
      have := g.b0; have := g.b1; have := g.h0; have := g.h1; have := g.s1; have := g.l1
      simp only [longM, okN, Bool.and_eq_true, decide_eq_true_eq]; omega
    have hn : numsM m = true := by
      have := g.st0; have := g.st1; have := g.i0; have := g.i1
      simp only [numsM, okN, Bool.and_eq_true, decide_eq_true_eq]; omega
    unfold chk
    rw [if_pos hl, if_pos hn, fstE_all _ _ _ (fun s hs => spanE_zero.2 (g.bor s hs)), fstE_all _ _ _ (fun s hs => spanE_zero.2 (by have := g.hei s hs; omega)), fstE_all _ _ _ (fun p hp => pairE_zero.2 (g.sid p hp)), fstE_all _ _ _ (fun p hp => pairE_zero.2 (g.lik p hp))]

/-- A number that comes too early behind another one. -/
def early (step : Int) (prev : Option Int) (n : Int) : Bool := match prev with | some q => decide (n < q + step) | none => false
/-- The first number of a legend with an error. -/
def legE (step : Int) : Option Int → List Int → List Sp → Int → (Int × Int) ⊕ Unit
  | _, [], _, _ => .inr ()
  | _, _ :: _, [], _ => .inr ()
  | prev, n :: ns, b :: bs, i =>
    if okN b.Lo b.Hi n then (if early step prev n then .inl (i, 2) else legE step (some n) ns bs (i + 1)) else .inl (i, 7)
theorem legE_cons {step : Int} {prev : Option Int} {n : Int} {ns : List Int} {b : Sp} {bs : List Sp} {i : Int} : legE step prev (n :: ns) (b :: bs) i =
    if okN b.Lo b.Hi n then (if early step prev n then .inl (i, 2) else legE step (some n) ns bs (i + 1)) else .inl (i, 7) := rfl
def chkLeg (m : Mp) (l : List Int) : Int × Int :=
  if (chk m).2.2 != 0 then (0, (chk m).2.2) else (if l.length = m.Borders.length then outE (legE m.Step none l m.Borders 0) else (0, 3))

theorem e19L1 {k : Nat} (hk : 20 ≤ k) {m : Mp} (g : GoodM m) {l : List Int} : ∀ (suf pre : List Int) (bs bpre : List Sp) (n : Nat) (c : Int) (prev : Option Int), l = pre ++ suf → m.Borders = bpre ++ bs → bpre.length = pre.length → bs.length = suf.length → c = pre.length → suf.length < n →
    prev = pre.getLast? → (∀ q, prev = some q → 0 ≤ q ∧ q ≤ 9000) → F19L1 k m l n c = some (legE m.Step prev suf bs c) := by
  intro suf
  induction suf with
  | nil =>
    intro pre bs bpre n c prev hl hb hbp hbs hc hn hp hq
    obtain ⟨n, rfl⟩ : ∃ m, n = m + 1 := ⟨n - 1, by simp at hn; omega⟩
    rw [F19L1, if_neg (by rw [hl]; simp; omega)]
    cases bs <;> cases prev <;> rfl
  | cons x suf ih =>
    intro pre bs bpre n c prev hl hb hbp hbs hc hn hp hq
    obtain ⟨n, rfl⟩ : ∃ m, n = m + 1 := ⟨n - 1, by simp at hn; omega⟩
    cases bs with
    | nil => simp at hbs
    | cons b bs =>
      have hb1 := g.b1
      have hbl : m.Borders.length = bpre.length + (bs.length + 1) := by rw [hb]; simp
      simp only [List.length_cons] at hn hbs
      have hlen : l.length = pre.length + (suf.length + 1) := by rw [hl]; simp
      have hib : idx m.Borders c = some b := by rw [hb]; exact idx_mid (by omega)
      rw [F19L1, if_pos (by simp; omega), show idx l c = some x by rw [hl]; exact idx_mid hc, Option.bind_some, hib, Option.bind_some, Option.bind_some, e52_1 (by omega), Option.bind_some, legE_cons]
      have hg := g.bor b (by rw [hb]; simp)
      cases hx : okN b.Lo b.Hi x with
      | false => rfl
      | true =>
        simp only [okN, Bool.and_eq_true, decide_eq_true_eq] at hx
        simp only [Bool.not_true, Bool.false_eq_true, if_false, if_true]
        have hst := g.st0
        have hst1 := g.st1
        have hnext : F19L1 k m l n (w64 (c + 1)) = some (legE m.Step (some x) suf bs (c + 1)) := by
          rw [w64_id (by omega) (by omega)]
          exact ih (pre ++ [x]) bs (bpre ++ [b]) n (c + 1) (some x) (by simp [hl]) (by simp [hb]) (by simp; omega) (by omega) (by simp; omega) (by omega) (by simp) (fun q hq => by simp at hq; subst hq; omega)
        rcases List.eq_nil_or_concat pre with rfl | ⟨pre', q, rfl⟩
        · have h0 : decide (c > 0) = false := by simp at hc; simp [hc]
          simp at hp; subst hp
          simp only [h0, optG_false, Option.bind_some, cond_false, Bool.false_eq_true, if_false, hnext, early]
        · simp only [List.concat_eq_append, List.length_append, List.length_cons, List.length_nil] at hc hlen hbp
          have h0 : decide (c > 0) = true := by simp; omega
          have hp' : prev = some q := by rw [hp]; simp
          have hqb := hq q hp'
          subst hp'
          have hi : idx l (w64 (c - 1)) = some q := by
            rw [w64_id (by omega) (by omega), hl, List.concat_eq_append, List.append_assoc]
            exact idx_mid (by omega)
          simp only [h0, optG_true, hi, Option.bind_some, cond_true]
          rw [w64_id (by omega) (by omega), hnext]
          by_cases hx2 : x < q + m.Step <;> simp [hx2, early]
theorem e20L1 {k : Nat} (hk : 20 ≤ k) {m : Mp} (g : GoodM m) {l : List Int} : ∀ (suf pre : List Int) (bs bpre : List Sp) (n : Nat) (c : Int) (prev : Option Int), l = pre ++ suf → m.Borders = bpre ++ bs → bpre.length = pre.length → bs.length = suf.length → c = pre.length → suf.length < n →
    prev = pre.getLast? → (∀ q, prev = some q → 0 ≤ q ∧ q ≤ 9000) → F20L1 m l n c = some (legE m.Step prev suf bs c) := by
  intro suf
  induction suf with
  | nil =>
    intro pre bs bpre n c prev hl hb hbp hbs hc hn hp hq
    obtain ⟨n, rfl⟩ : ∃ m, n = m + 1 := ⟨n - 1, by simp at hn; omega⟩
    rw [F20L1, if_neg (by rw [hl]; simp; omega)]
    cases bs <;> cases prev <;> rfl
  | cons x suf ih =>
    intro pre bs bpre n c prev hl hb hbp hbs hc hn hp hq
    obtain ⟨n, rfl⟩ : ∃ m, n = m + 1 := ⟨n - 1, by simp at hn; omega⟩
    cases bs with
    | nil => simp at hbs
    | cons b bs =>
      have hb1 := g.b1
      have hbl : m.Borders.length = bpre.length + (bs.length + 1) := by rw [hb]; simp
      simp only [List.length_cons] at hn hbs
      have hlen : l.length = pre.length + (suf.length + 1) := by rw [hl]; simp
      have hib : idx m.Borders c = some b := by rw [hb]; exact idx_mid (by omega)
      have hix : idx l c = some x := by rw [hl]; exact idx_mid hc
      rw [F20L1, if_pos (by simp; omega), hix, Option.bind_some, hib, Option.bind_some, Option.bind_some, e61, Option.bind_some, legE_cons]
      have hg := g.bor b (by rw [hb]; simp)
      cases hx : okN b.Lo b.Hi x with
      | false => rfl
      | true =>
        simp only [okN, Bool.and_eq_true, decide_eq_true_eq] at hx
        simp only [Bool.not_true, Bool.false_eq_true, if_false, if_true]
        have hst := g.st0
        have hst1 := g.st1
        have hnext : F20L1 m l n (w64 (c + 1)) = some (legE m.Step (some x) suf bs (c + 1)) := by
          rw [w64_id (by omega) (by omega)]
          exact ih (pre ++ [x]) bs (bpre ++ [b]) n (c + 1) (some x) (by simp [hl]) (by simp [hb]) (by simp; omega) (by omega) (by simp; omega) (by omega) (by simp) (fun q hq => by simp at hq; subst hq; omega)
        rcases List.eq_nil_or_concat pre with rfl | ⟨pre', q, rfl⟩
        · have h0 : decide (c > 0) = false := by simp at hc; simp [hc]
          simp at hp; subst hp
          simp only [h0, optG_false, Option.bind_some, cond_false, Bool.false_eq_true, if_false, hnext, early]
        · simp only [List.concat_eq_append, List.length_append, List.length_cons, List.length_nil] at hc hlen hbp
          have h0 : decide (c > 0) = true := by simp; omega
          have hp' : prev = some q := by rw [hp]; simp
          have hqb := hq q hp'
          subst hp'
          have hi : idx l (w64 (c - 1)) = some q := by
            rw [w64_id (by omega) (by omega), hl, List.concat_eq_append, List.append_assoc]
            exact idx_mid (by omega)
          simp only [h0, optG_true, hi, Option.bind_some, cond_true]
          rw [w64_id (by omega) (by omega), hnext]
          by_cases hx2 : x < q + m.Step <;> simp [hx2, early]

theorem e19 {k : Nat} (hk : 20 ≤ k) {m : Mp} {l : List Int} : F19 k m l = some (chkLeg m l) := by
  unfold F19 chkLeg
  rw [e17 hk, Option.bind_some]
  cases h : (chk m).2.2 != 0 with
  | true => rfl
  | false =>
    simp only [Bool.false_eq_true, if_false]
    have g : GoodM m := chk_good.1 (by simpa using h)
    by_cases hl : l.length = m.Borders.length
    · rw [if_neg (by simp [hl]), if_pos hl]
      rw [e19L1 hk g (l := l) l [] m.Borders [] k 0 none rfl rfl rfl hl.symm rfl (by have := g.b1; omega) rfl (fun q h => by simp at h), Option.bind_some]
      cases legE m.Step none l m.Borders 0 <;> rfl
    · rw [if_pos (by simp; omega), if_neg hl]
theorem e20 {k : Nat} (hk : 20 ≤ k) {m : Mp} {l : List Int} : F20 k m l = some (chkLeg m l) := by
  unfold F20 chkLeg
  rw [e18 hk, Option.bind_some]
  cases h : (chk m).2.2 != 0 with
  | true =>
    have h2 : ((chk m).2.2 == 0) = false := by simpa using h
    simp only [h2, cond_false, Bool.false_eq_true, if_false, Option.bind_some, outK_inr, h, if_true]
  | false =>
    have h0 : (chk m).2.2 = 0 := by simpa using h
    have g : GoodM m := chk_good.1 h0
    simp only [h0, beq_self_eq_true, cond_true, Bool.false_eq_true, if_false]
    by_cases hl : l.length = m.Borders.length
    · have h1 : ((l.length : Int) != (m.Borders.length : Int)) = false := by simp [hl]
      simp only [h1, Bool.false_eq_true, if_false, Option.bind_some, outK_inr, bne_self_eq_false, if_pos hl]
      rw [e20L1 hk g (l := l) l [] m.Borders [] k 0 none rfl rfl rfl hl.symm rfl (by have := g.b1; omega) rfl (fun q h => by simp at h), Option.bind_some]
      cases legE m.Step none l m.Borders 0 <;> rfl
    · have h1 : ((l.length : Int) != (m.Borders.length : Int)) = true := by simp; omega
      simp only [h1, if_true, Option.bind_some, outK_inr, if_neg hl]
      rfl
end Go.Proofs.Ytpkhbbboedoldaa
namespace Go.Proofs.Ytpkhbbboedoldaa
open Go Go.Sx
set_option linter.all false

/-- How many numbers at the start are not above a height. -/
def band : List Int → Int → Nat
  | [], _ => 0
  | x :: xs, h => if x ≤ h then band xs h + 1 else 0
theorem band_le : ∀ (l : List Int) (h : Int), band l h ≤ l.length := by
  intro l
  induction l with
  | nil => intro h; simp [band]
  | cons x xs ih => intro h; simp only [band]; split <;> simp; exact ih h
theorem band_lt : ∀ (l : List Int) (h : Int) (i : Nat), i < band l h → l[i]! ≤ h := by
  intro l
  induction l with
  | nil => intro h i hi; simp [band] at hi
  | cons x xs ih =>
    intro h i hi
    simp only [band] at hi
    split at hi
    · cases i with
      | zero => simpa
      | succ i => simpa using ih h i (by omega)
    · omega
theorem band_at : ∀ (l : List Int) (h : Int), band l h < l.length → h < l[band l h]! := by
  intro l
  induction l with
  | nil => intro h hi; simp [band] at hi
  | cons x xs ih =>
    intro h hi
    simp only [band] at hi ⊢
    split at hi
    · rename_i hx
      rw [if_pos hx]
      simpa using ih h (by simpa using hi)
    · rename_i hx
      rw [if_neg hx]
      simpa using Int.not_le.1 hx
/-- Numbers that rise. -/
def Inc (l : List Int) : Prop := ∀ i j : Nat, i < j → j < l.length → l[i]! < l[j]!
theorem band_is {l : List Int} (hi : Inc l) {h : Int} {n : Nat} (hn : n ≤ l.length) (h1 : ∀ i, i < n → l[i]! ≤ h) (h2 : n < l.length → h < l[n]!) : band l h = n := by
  rcases Nat.lt_trichotomy (band l h) n with hlt | he | hgt
  · have := band_at l h (by omega)
    have := h1 _ hlt
    omega
  · exact he
  · have := band_lt l h n hgt
    have := h2 (by have := band_le l h; omega)
    omega

theorem e83L1 {k : Nat} {l : List Int} {h : Int} : ∀ (suf pre : List Int) (n : Nat) (c : Int), l = pre ++ suf → c = pre.length → l.length < 2 ^ 62 → suf.length < n → F83L1 l h n c = some (.inr (c + band suf h)) := by
  intro suf
  induction suf with
  | nil =>
    intro pre n c hl hc h62 hn
    obtain ⟨n, rfl⟩ : ∃ m, n = m + 1 := ⟨n - 1, by simp at hn; omega⟩
    have h0 : decide (c < (l.length : Int)) = false := by rw [hl]; simp; omega
    rw [F83L1]
    simp only [h0, optG_false, Option.bind_some, cond_false, Bool.false_eq_true, if_false, band]
    congr 2; omega
  | cons x suf ih =>
    intro pre n c hl hc h62 hn
    obtain ⟨n, rfl⟩ : ∃ m, n = m + 1 := ⟨n - 1, by simp at hn; omega⟩
    have hlen : l.length = pre.length + (suf.length + 1) := by rw [hl]; simp
    simp only [List.length_cons] at hn
    have h0 : decide (c < (l.length : Int)) = true := by simp; omega
    rw [F83L1]
    simp only [h0, optG_true, cond_true]
    rw [show idx l c = some x by rw [hl]; exact idx_mid hc, Option.bind_some, band]
    by_cases hx : x ≤ h
    · rw [if_pos (by simpa using hx), if_pos hx, w64_id (by omega) (by omega), ih (pre ++ [x]) n (c + 1) (by simp [hl]) (by simp; omega) h62 (by omega)]
      congr 2; omega
    · rw [if_neg (by simpa using hx), if_neg hx]
      congr 2; omega
theorem e83 {k : Nat} {l : List Int} {h : Int} (hk : l.length < k) (h62 : l.length < 2 ^ 62) : F83 k l h = some (band l h : Int) := by
  unfold F83
  rw [e83L1 (k := k) (l := l) l [] k 0 rfl rfl h62 hk, Option.bind_some, outK_inr]
  simp

theorem e94 (a b : Int) : F94 a b = some (decide (a < b)) := by
  unfold F94 F96
  simp
  rfl
theorem half {a : Int} (h0 : 0 ≤ a) (h1 : a ≤ 2 ^ 62) : (IntKind.i64.wrap ((IntKind.u64.wrap (w64 a)) / 2 ^ min (1 : Int).toNat 64)) = a / 2 := by
  rw [w64_id (by omega) (by omega)]
  have e1 : IntKind.u64.wrap a = a := by
    show (if (false && decide (a % (18446744073709551616 : Int) ≥ 9223372036854775808)) = true then a % (18446744073709551616 : Int) - 18446744073709551616 else a % (18446744073709551616 : Int)) = a
    simp; omega
  rw [e1]
  have e2 : (2 : Int) ^ min (1 : Int).toNat 64 = 2 := by decide
  rw [e2]
  exact w64_id (by omega) (by omega)

theorem e92L1 {l : List Int} {t : Int} (hi : Inc l) (h62 : l.length < 2 ^ 61) (n : Nat) (hn : l.length < n) :
    Ok (F92L1 l t n (0, (l.length : Int))) fun o => ∃ i : Nat, o = .inr (i : Int) ∧ i ≤ l.length ∧ (∀ j, j < i → l[j]! < t) ∧ ∀ j, i ≤ j → j < l.length → t ≤ l[j]! := by
  refine ok_loop (f := F92L1 l t) (fun c => ∃ a b : Nat, c = ((a : Int), (b : Int)) ∧ a ≤ b ∧ b ≤ l.length ∧ (∀ j, j < a → l[j]! < t) ∧ ∀ j, b ≤ j → j < l.length → t ≤ l[j]!) (fun c => (c.2 - c.1).toNat) _ ?_ n _ ⟨0, l.length, rfl, by omega, by omega, fun j h => by omega, fun j h h' => by omega⟩ (by simp; omega)
  rintro n _ ⟨a, b, rfl, hab, hb, h1, h2⟩ ih
  rw [F92L1]
  by_cases hlt : a < b
  · rw [if_pos (by simp; omega)]
    simp only
    rw [half (by omega) (by omega)]
    have hm : ((a : Int) + b) / 2 = (((a + b) / 2 : Nat) : Int) := by omega
    rw [hm, idx_nat (by omega), Option.bind_some, e94, Option.bind_some]
    have hma : a ≤ (a + b) / 2 := by omega
    have hmb : (a + b) / 2 < b := by omega
    by_cases hx : l[(a + b) / 2]! < t
    · rw [if_pos (by simpa using hx), w64_id (by omega) (by omega)]
      refine ih _ ⟨(a + b) / 2 + 1, b, by simp, by omega, hb, fun j hj => ?_, h2⟩ (by simp; omega)
      rcases Nat.lt_or_ge j ((a + b) / 2) with h | h
      · have := hi j ((a + b) / 2) h (by omega); omega
      · have : j = (a + b) / 2 := by omega
        subst this; exact hx
    · rw [if_neg (by simpa using hx)]
      refine ih _ ⟨a, (a + b) / 2, rfl, by omega, by omega, h1, fun j hj hjl => ?_⟩ (by simp; omega)
      rcases Nat.lt_or_ge ((a + b) / 2) j with h | h
      · have := hi ((a + b) / 2) j h hjl; omega
      · have : j = (a + b) / 2 := by omega
        subst this; omega
  · rw [if_neg (by simp; omega)]
    exact ok_some.2 ⟨a, rfl, by omega, h1, fun j hj hjl => h2 j (by omega) hjl⟩

theorem e82 {k : Nat} {l : List Int} (hi : Inc l) (hk : l.length < k) (h62 : l.length < 2 ^ 61) {t : Int} {b0 : List Sp} {b1 : Int} {b2 : List Sp} {b3 : List Pr} {b4 : Int} {b5 : List Pr} {b8 : List Int} {a1 : List Sp} :
    F82v1 k t b0 b1 b2 b3 b4 b5 l b8 a1 = some (band l t : Int) := by
  unfold F82v1 F92
  obtain ⟨o, h1, i, rfl, h2, h3, h4⟩ := e92L1 (t := t) hi h62 k hk
  rw [h1, Option.bind_some, outK_inr]
  by_cases hil : i < l.length
  · have hd : decide ((i : Int) < (l.length : Int)) = true := by simpa using hil
    simp only [hd, optG_true, idx_nat hil, Option.bind_some, Bool.true_and, cond_true]
    by_cases hx : l[i]! = t
    · have hb : (l[i]! == t) = true := by simpa using hx
      simp only [hb, Bool.not_true, optG_false, Option.bind_some, Bool.false_and, cond_true, if_true]
      rw [w64_id (by omega) (by omega), band_is hi (n := i + 1) (by omega) (fun j hj => ?_) (fun h => ?_)]
      · simp
      · rcases Nat.lt_or_ge j i with h | h
        · have := h3 j h; omega
        · have : j = i := by omega
          subst this; omega
      · have := hi i (i + 1) (by omega) h; omega
    · have hb : (l[i]! == t) = false := by simpa using hx
      have hF : ∀ a, F95 a = some false := by intro a; unfold F95; simp
      simp only [hb, Bool.not_false, optG_true, Option.bind_some, hF, Bool.true_and, optG_false, cond_false, Bool.false_eq_true, if_false]
      rw [band_is hi (n := i) (by omega) (fun j hj => by have := h3 j hj; omega) (fun h => by have := h4 i (Nat.le_refl _) h; omega)]
  · have hd : decide ((i : Int) < (l.length : Int)) = false := by simp; omega
    simp only [hd, optG_false, Option.bind_some, Bool.false_and, cond_false, Bool.false_eq_true, if_false]
    rw [band_is hi (n := i) (by omega) (fun j hj => by have := h3 j hj; omega) (fun h => absurd h hil)]
end Go.Proofs.Ytpkhbbboedoldaa
namespace Go.Proofs.Ytpkhbbboedoldaa
open Go Go.Sx
set_option linter.all false

/-- The bands of a span of heights. -/
def bandS (l : List Int) (s : Sp) : Sp := ⟨band l s.Lo, band l s.Hi⟩
def alls (m : Mp) (l : List Int) : List Sp := m.Heights.map (bandS l)

theorem e65 {k : Nat} (hk : 20 ≤ k) {m : Mp} {l : List Int} (hh : m.Heights.length ≤ 8) (hl : l.length ≤ 5) : F65 k m l = some (alls m l) := by
  have key : ∀ (suf pre : List Sp) (n : Nat) (c : Int), m.Heights = pre ++ suf → c = pre.length → suf.length < n → F65L1 k m l n (c, pre.map (bandS l)) = some (.inr (alls m l)) := by
    intro suf
    induction suf with
    | nil =>
      intro pre n c hs hc hn
      obtain ⟨n, rfl⟩ : ∃ m, n = m + 1 := ⟨n - 1, by simp at hn; omega⟩
      rw [F65L1, if_neg (by rw [hs]; simp; omega), alls, hs]; simp
    | cons x suf ih =>
      intro pre n c hs hc hn
      obtain ⟨n, rfl⟩ : ∃ m, n = m + 1 := ⟨n - 1, by simp at hn; omega⟩
      have hlen : m.Heights.length = pre.length + (suf.length + 1) := by rw [hs]; simp
      simp only [List.length_cons] at hn
      have hix : idx m.Heights c = some x := by rw [hs]; exact idx_mid hc
      rw [F65L1, if_pos (by simp; omega)]
      simp only [hix, Option.bind_some]
      rw [e83 (by omega) (by omega), Option.bind_some, e83 (by omega) (by omega), Option.bind_some, need_true (by simp; omega), Option.bind_some, w64_id (by omega) (by omega)]
      have := ih (pre ++ [x]) n (c + 1) (by simp [hs]) (by simp; omega) (by omega)
      rw [List.map_append] at this
      exact this
  unfold F65
  have := key m.Heights [] k 0 rfl rfl (by omega)
  rw [List.map_nil] at this
  rw [this]; rfl

theorem e64L1 {k : Nat} (hk : 20 ≤ k) {m : Mp} {l : List Int} (hi : Inc l) (hh : m.Heights.length ≤ 8) (hl : l.length ≤ 5) : F64L1 k m l k (0, []) = some (.inr (alls m l)) := by
  have key : ∀ (suf pre : List Sp) (n : Nat) (c : Int), m.Heights = pre ++ suf → c = pre.length → suf.length < n → F64L1 k m l n (c, pre.map (bandS l)) = some (.inr (alls m l)) := by
    intro suf
    induction suf with
    | nil =>
      intro pre n c hs hc hn
      obtain ⟨n, rfl⟩ : ∃ m, n = m + 1 := ⟨n - 1, by simp at hn; omega⟩
      rw [F64L1, if_neg (by rw [hs]; simp; omega), alls, hs]; simp
    | cons x suf ih =>
      intro pre n c hs hc hn
      obtain ⟨n, rfl⟩ : ∃ m, n = m + 1 := ⟨n - 1, by simp at hn; omega⟩
      have hlen : m.Heights.length = pre.length + (suf.length + 1) := by rw [hs]; simp
      simp only [List.length_cons] at hn
      have hix : idx m.Heights c = some x := by rw [hs]; exact idx_mid hc
      rw [F64L1, if_pos (by simp; omega)]
      simp only [hix, Option.bind_some]
      rw [e82 hi (by omega) (by omega), Option.bind_some, e82 hi (by omega) (by omega), Option.bind_some, need_true (by simp; omega), Option.bind_some, w64_id (by omega) (by omega)]
      have := ih (pre ++ [x]) n (c + 1) (by simp [hs]) (by simp; omega) (by omega)
      rw [List.map_append] at this
      exact this
  have := key m.Heights [] k 0 rfl rfl (by omega)
  rw [List.map_nil] at this
  exact this

/-- A legend without an error. -/
structure GoodL (m : Mp) (l : List Int) : Prop where
  len : l.length = m.Borders.length
  inb : ∀ i : Nat, i < l.length → m.Borders[i]!.Lo ≤ l[i]! ∧ l[i]! ≤ m.Borders[i]!.Hi
  gap : ∀ i : Nat, i + 1 < l.length → l[i]! + m.Step ≤ l[i + 1]!

theorem legE_good {step : Int} : ∀ (l : List Int) (bs : List Sp) (prev : Option Int) (i : Int), l.length = bs.length →
    ((∃ u, legE step prev l bs i = .inr u) ↔ (∀ j : Nat, j < l.length → bs[j]!.Lo ≤ l[j]! ∧ l[j]! ≤ bs[j]!.Hi) ∧ (∀ j : Nat, j + 1 < l.length → l[j]! + step ≤ l[j + 1]!) ∧ ∀ q, prev = some q → 0 < l.length → q + step ≤ l[0]!) := by
  intro l
  induction l with
  | nil => intro bs prev i _; cases bs <;> simp [legE]
  | cons n ns ih =>
    intro bs prev i hl
    cases bs with
    | nil => simp at hl
    | cons b bs =>
      rw [legE_cons]
      have hl' : ns.length = bs.length := by simpa using hl
      have hr := ih bs (some n) (i + 1) hl'
      cases hx : okN b.Lo b.Hi n with
      | false =>
        simp only [Bool.false_eq_true, if_false, reduceCtorEq, exists_false, false_iff]
        intro h
        have := h.1 0 (by simp)
        simp only [okN, Bool.and_eq_false_iff, decide_eq_false_iff_not] at hx
        simp at this
        omega
      | true =>
        simp only [okN, Bool.and_eq_true, decide_eq_true_eq] at hx
        simp only [if_true]
        have hp : early step prev n = true ↔ ¬ ∀ q, prev = some q → q + step ≤ n := by
          cases prev with
          | none => simp [early]
          | some q => simp [early]
        by_cases hq : ∀ q, prev = some q → q + step ≤ n
        · rw [if_neg (fun h => (hp.1 h) hq), hr]
          constructor
          · rintro ⟨h1, h2, h3⟩
            refine ⟨fun j hj => ?_, fun j hj => ?_, fun q hq' _ => by simpa using hq q hq'⟩
            · cases j with
              | zero => simpa using hx
              | succ j => simpa using h1 j (by simpa using hj)
            · cases j with
              | zero => have := h3 n rfl (by simpa using hj); simpa using this
              | succ j => simpa using h2 j (by simpa using hj)
          · rintro ⟨h1, h2, h3⟩
            refine ⟨fun j hj => by simpa using h1 (j + 1) (by simpa using hj), fun j hj => by simpa using h2 (j + 1) (by simpa using hj), fun q hq' hpos => ?_⟩
            simp at hq'; subst hq'
            simpa using h2 0 (by simpa using hpos)
        · rw [if_pos (hp.2 hq)]
          simp only [reduceCtorEq, exists_false, false_iff]
          intro h
          exact hq fun q hq' => by simpa using h.2.2 q hq' (by simp)

theorem chkLeg_good {m : Mp} {l : List Int} : (chkLeg m l).2 = 0 ↔ GoodM m ∧ GoodL m l := by
  unfold chkLeg
  cases h : (chk m).2.2 != 0 with
  | true =>
    have h1 : (chk m).2.2 ≠ 0 := by simpa using h
    simp only [if_true]
    exact ⟨fun h2 => absurd h2 h1, fun h2 => absurd (chk_good.2 h2.1) h1⟩
  | false =>
    have g : GoodM m := chk_good.1 (by simpa using h)
    simp only [Bool.false_eq_true, if_false]
    by_cases hl : l.length = m.Borders.length
    · rw [if_pos hl]
      have hg := legE_good (step := m.Step) l m.Borders none 0 hl
      constructor
      · intro h2
        refine ⟨g, ?_⟩
        cases hE : legE m.Step none l m.Borders 0 with
        | inr u =>
          obtain ⟨h3, h4, _⟩ := hg.1 ⟨u, hE⟩
          exact ⟨hl, h3, h4⟩
        | inl p =>
          exfalso
          have hne : ∀ (l : List Int) (bs : List Sp) (prev : Option Int) (i : Int) p, legE m.Step prev l bs i = .inl p → p.2 ≠ 0 := by
            intro l
            induction l with
            | nil => intro bs prev i p h; cases bs <;> simp [legE] at h
            | cons n ns ih =>
              intro bs prev i p h
              cases bs with
              | nil => simp [legE] at h
              | cons b bs =>
                rw [legE_cons] at h
                split at h
                · split at h
                  · simp at h; subst h; simp
                  · exact ih _ _ _ _ h
                · simp at h; subst h; simp
          rw [hE] at h2
          exact hne _ _ _ _ _ hE h2
      · rintro ⟨_, gl⟩
        obtain ⟨u, hu⟩ := hg.2 ⟨gl.inb, gl.gap, fun q h => by simp at h⟩
        rw [hu]; rfl
    · rw [if_neg hl]
      exact ⟨fun h => by simp at h, fun h => absurd h.2.len hl⟩

theorem GoodL.inc {m : Mp} {l : List Int} (g : GoodM m) (h : GoodL m l) : Inc l := by
  intro i j hij hj
  induction j with
  | zero => omega
  | succ j ih =>
    have := h.gap j hj
    have := g.st0
    rcases Nat.lt_or_ge i j with h1 | h1
    · have := ih h1 (by omega); omega
    · have : i = j := by omega
      subst this; omega
end Go.Proofs.Ytpkhbbboedoldaa
