/- What the functions of chapter 09 come to, in plain words: out, Check. -/
import Derived.Test.YtpkhbbboedoldaaX3
import Derived.Test.YtpkhbbboedoldaaDE
namespace Go.Proofs.Ytpkhbbboedoldaa
open Go Go.Sx
set_option linter.all false

abbrev Sp := S_api_Span
abbrev Pr := S_api_ClPair
abbrev Mp := S_api_ClMap

theorem e80 (n lo hi : Int) : F80 n lo hi = some (decide (n < lo) || decide (n > hi)) := by
  unfold F80; cases decide (n < lo) <;> rfl

theorem e90L1 {lo hi : Int} : ∀ (suf pre : List Int) (n : Nat) (c : Int), c = pre.length → (pre ++ suf).length < 2 ^ 62 → suf.length < n →
    ∃ o, F90L1 (pre ++ suf) lo hi n c = some o ∧ ((suf.any (fun n => decide (n < lo) || decide (n > hi)) = true ∧ ∃ i, o = .inl i ∧ 0 ≤ i) ∨ (suf.any (fun n => decide (n < lo) || decide (n > hi)) = false ∧ o = .inr ())) := by
  intro suf
  induction suf with
  | nil =>
    intro pre n c hc hl hn
    obtain ⟨n, rfl⟩ : ∃ m, n = m + 1 := ⟨n - 1, by simp at hn; omega⟩
    rw [F90L1, if_neg (by simp; omega)]
    exact ⟨_, rfl, .inr ⟨rfl, rfl⟩⟩
  | cons x suf ih =>
    intro pre n c hc hl hn
    obtain ⟨n, rfl⟩ : ∃ m, n = m + 1 := ⟨n - 1, by simp at hn; omega⟩
    simp only [List.length_append, List.length_cons] at hl hn
    rw [F90L1, if_pos (by simp; omega), idx_mid hc, Option.bind_some, e80, Option.bind_some, List.any_cons]
    cases hb : (decide (x < lo) || decide (x > hi)) with
    | true => simp only [if_true]; exact ⟨_, rfl, .inl ⟨rfl, c, rfl, by omega⟩⟩
    | false =>
      simp only [Bool.false_eq_true, if_false, Bool.false_or]
      rw [w64_id (by omega) (by omega)]
      have := ih (pre ++ [x]) n (c + 1) (by simp; omega) (by simp; omega) (by omega)
      simpa using this

theorem e52 {k : Nat} {l : List Int} {lo hi : Int} (hk : l.length < k) (hl : l.length < 2 ^ 62) : F52 k lo hi l = some (l.any fun n => decide (n < lo) || decide (n > hi)) := by
  unfold F52 F79 F90
  obtain ⟨o, h1, h2⟩ := e90L1 (lo := lo) (hi := hi) l [] k 0 rfl (by simpa using hl) hk
  rw [List.nil_append] at h1
  rw [h1]
  rcases h2 with ⟨h2, i, rfl, hi⟩ | ⟨h2, rfl⟩
  · simp [outK, h2, hi]
  · simp [outK, h2]

/-- A number is from lo to hi. -/
def okN (lo hi n : Int) : Bool := decide (lo ≤ n) && decide (n ≤ hi)
theorem e52_1 {k : Nat} {lo hi a : Int} (hk : 2 ≤ k) : F52 k lo hi [a] = some (!okN lo hi a) := by
  rw [e52 (by simp; omega) (by simp)]
  congr 1
  rw [Bool.eq_iff_iff]; simp [okN]
theorem e52_2 {k : Nat} {lo hi a b : Int} (hk : 3 ≤ k) : F52 k lo hi [a, b] = some (!(okN lo hi a && okN lo hi b)) := by
  rw [e52 (by simp; omega) (by simp)]
  congr 1
  rw [Bool.eq_iff_iff]; simp [okN]

/-- The error of a span. -/
def spanE (wide : Int) (s : Sp) : Int := if okN 0 9000 s.Lo && okN 0 9000 s.Hi then (if okN s.Lo (s.Lo + wide) s.Hi then 0 else 2) else 7
theorem e55 {k : Nat} (hk : 3 ≤ k) {s : Sp} {wide : Int} (h0 : 0 ≤ wide) (h1 : wide ≤ 9000) : F55 k s wide = some (spanE wide s) := by
  unfold F55 spanE
  rw [e52_2 hk, Option.bind_some]
  cases hb : (okN 0 9000 s.Lo && okN 0 9000 s.Hi) with
  | false => rfl
  | true =>
    simp only [okN, Bool.and_eq_true, decide_eq_true_eq] at hb
    simp only [Bool.not_true, Bool.false_eq_true, if_false, if_true]
    rw [w64_id (by omega) (by omega), e52_1 (by omega), Option.bind_some]
    cases okN s.Lo (s.Lo + wide) s.Hi <;> rfl
/-- The error of a pair of numbers. -/
def pairE (below : Int) (p : Pr) : Int := if okN 0 (below - 1) p.A && okN 0 (below - 1) p.B then (if p.A == p.B then 2 else 0) else 4
theorem e59 {k : Nat} (hk : 3 ≤ k) {p : Pr} {below : Int} (h0 : -2 ^ 62 ≤ below) (h1 : below ≤ 2 ^ 62) : F59 k p below = some (pairE below p) := by
  unfold F59 pairE
  rw [w64_id (by omega) (by omega), e52_2 hk, Option.bind_some]
  cases (okN 0 (below - 1) p.A && okN 0 (below - 1) p.B) with
  | false => rfl
  | true =>
    simp only [Bool.not_true, Bool.false_eq_true, if_false, if_true]
    cases p.A == p.B <;> rfl

/-- The first thing with an error. -/
def fstE {α : Type} (g : α → Int) : List α → Int → (Int × Int) ⊕ Unit
  | [], _ => .inr ()
  | x :: xs, i => if g x != 0 then .inl (i, g x) else fstE g xs (i + 1)
def outE (o : (Int × Int) ⊕ Unit) : Int × Int := match o with | .inl p => p | .inr _ => (0, 0)
theorem fst_loop {α : Type} {l : List α} {L : Nat → Int → Option ((Int × Int) ⊕ Unit)} {f : α → Option Int} {g : α → Int} (hf : ∀ x ∈ l, f x = some (g x)) (h62 : l.length < 2 ^ 62)
    (hL : ∀ n c, L (n + 1) c = if (decide (c < (l.length : Int))) then ((idx l c).bind fun x => (f x).bind fun e => if (e != 0) then (some (.inl (c, e))) else (L n (w64 (c + 1)))) else (some (.inr ()))) :
    ∀ (suf pre : List α) (n : Nat) (c : Int), l = pre ++ suf → c = pre.length → suf.length < n → L n c = some (fstE g suf c) := by
  intro suf
  induction suf with
  | nil =>
    intro pre n c hl hc hn
    obtain ⟨n, rfl⟩ : ∃ m, n = m + 1 := ⟨n - 1, by simp at hn; omega⟩
    rw [hL, if_neg (by rw [hl]; simp; omega)]; rfl
  | cons x suf ih =>
    intro pre n c hl hc hn
    obtain ⟨n, rfl⟩ : ∃ m, n = m + 1 := ⟨n - 1, by simp at hn; omega⟩
    have hlen : l.length = pre.length + (suf.length + 1) := by rw [hl]; simp
    simp only [List.length_cons] at hn
    rw [hL, if_pos (by simp; omega)]
    rw [show idx l c = some x by rw [hl]; exact idx_mid hc, Option.bind_some, hf x (by rw [hl]; simp), Option.bind_some, fstE]
    cases g x != 0 with
    | true => rfl
    | false =>
      simp only [Bool.false_eq_true, if_false]
      rw [w64_id (by omega) (by omega)]
      exact ih (pre ++ [x]) n (c + 1) (by simp [hl]) (by simp; omega) (by omega)

theorem e53 {k : Nat} (hk : 3 ≤ k) {l : List Sp} (hl : l.length < k) (h62 : l.length < 2 ^ 62) : F53 k l = some (outE (fstE (spanE 20) l 0)) := by
  unfold F53
  rw [fst_loop (L := F53L1 k l) (f := F54 k) (g := spanE 20) (fun x _ => by unfold F54; rw [e55 hk (by omega) (by omega)]; rfl) h62 (fun n c => rfl) l [] k 0 rfl rfl hl, Option.bind_some]
  cases fstE (spanE 20) l 0 <;> rfl
theorem e53v {k : Nat} (hk : 3 ≤ k) {l : List Sp} (hl : l.length < k) (h62 : l.length < 2 ^ 62) : F53v1 k l = some (outE (fstE (spanE 9000) l 0)) := by
  unfold F53v1
  rw [fst_loop (L := F53v1L1 k l) (f := F56 k) (g := spanE 9000) (fun x _ => by unfold F56; rw [e55 hk (by omega) (by omega)]; rfl) h62 (fun n c => rfl) l [] k 0 rfl rfl hl, Option.bind_some]
  cases fstE (spanE 9000) l 0 <;> rfl
theorem e57 {k : Nat} (hk : 3 ≤ k) {l : List Pr} (hl : l.length < k) (h62 : l.length < 2 ^ 62) {b0 : List Sp} {b1 : Int} {b2 : List Sp} {b3 : List Pr} {b4 : Int} {b5 : List Pr} (hb : b2.length < 2 ^ 62) :
    F57 k l b0 b1 b2 b3 b4 b5 = some (outE (fstE (pairE b2.length) l 0)) := by
  unfold F57
  rw [fst_loop (L := F57L1 k l b0 b1 b2 b3 b4 b5) (f := fun x => F58 k x b0 b1 b2 b3 b4 b5) (g := pairE b2.length) (fun x _ => by unfold F58; rw [e59 hk (by omega) (by omega)]; rfl) h62 (fun n c => rfl) l [] k 0 rfl rfl hl, Option.bind_some]
  cases fstE (pairE b2.length) l 0 <;> rfl
theorem e57v {k : Nat} (hk : 3 ≤ k) {l : List Pr} (hl : l.length < k) (h62 : l.length < 2 ^ 62) {b0 : List Sp} {b1 : Int} {b2 : List Sp} {b3 : List Pr} {b4 : Int} {b5 : List Pr} (h0 : -2 ^ 62 ≤ b4) (h1 : b4 ≤ 2 ^ 62) :
    F57v1 k l b0 b1 b2 b3 b4 b5 = some (outE (fstE (pairE b4) l 0)) := by
  unfold F57v1
  rw [fst_loop (L := F57v1L1 k l b0 b1 b2 b3 b4 b5) (f := fun x => F60 k x b0 b1 b2 b3 b4 b5) (g := pairE b4) (fun x _ => by unfold F60; rw [e59 hk h0 h1]; rfl) h62 (fun n c => rfl) l [] k 0 rfl rfl hl, Option.bind_some]
  cases fstE (pairE b4) l 0 <;> rfl

/-- Whether the parts of a map are neither too long nor too short; and its numbers. -/
def longM (m : Mp) : Bool := okN 1 5 m.Borders.length && okN 1 8 m.Heights.length && decide (m.Sides.length ≤ 10) && decide (m.Like.length ≤ 8)
def numsM (m : Mp) : Bool := okN 1 1000 m.Step && okN 1 6 m.Inks
def chk (m : Mp) : Int × Int × Int :=
  if longM m then (if numsM m then
    (match fstE (spanE 20) m.Borders 0 with
     | .inl p => (2, p)
     | .inr _ => match fstE (spanE 9000) m.Heights 0 with
       | .inl p => (3, p)
       | .inr _ => match fstE (pairE m.Heights.length) m.Sides 0 with
         | .inl p => (4, p)
         | .inr _ => match fstE (pairE m.Inks) m.Like 0 with
           | .inl p => (5, p)
           | .inr _ => (0, 0, 0)) else (1, 0, 7)) else (1, 0, 3)

theorem fstE_ne {α : Type} (g : α → Int) : ∀ (l : List α) (i : Int) p, fstE g l i = .inl p → (p.2 != 0) = true := by
  intro l
  induction l with
  | nil => intro i p h; simp [fstE] at h
  | cons x xs ih =>
    intro i p h
    simp only [fstE] at h
    split at h
    · rename_i hx; simp only [Sum.inl.injEq] at h; subst h; exact hx
    · exact ih _ _ h

theorem e17 {k : Nat} (hk : 20 ≤ k) {m : Mp} : F17 k m = some (chk m) := by
  unfold F17 chk
  rw [e52_1 (by omega), Option.bind_some]
  have e2 : optG (!(!okN 1 5 (m.Borders.length : Int))) (F52 k 1 8 [(m.Heights.length : Int)]) = some (cond (okN 1 5 (m.Borders.length : Int)) (!okN 1 8 (m.Heights.length : Int)) default) := by
    rw [Bool.not_not]
    cases okN 1 5 (m.Borders.length : Int) with
    | true => rw [optG_true, e52_1 (by omega)]; rfl
    | false => rfl
  rw [e2, Option.bind_some]
  have e3 : (cond (cond (cond (!okN 1 5 (m.Borders.length : Int)) true (cond (okN 1 5 (m.Borders.length : Int)) (!okN 1 8 (m.Heights.length : Int)) default)) true (decide ((m.Sides.length : Int) > 10))) true (decide ((m.Like.length : Int) > 8))) = !longM m := by
    unfold longM
    have h3 : decide ((m.Sides.length : Int) > 10) = !decide (m.Sides.length ≤ 10) := by rw [Bool.eq_iff_iff]; simp; omega
    have h4 : decide ((m.Like.length : Int) > 8) = !decide (m.Like.length ≤ 8) := by rw [Bool.eq_iff_iff]; simp; omega
    rw [h3, h4]
    cases okN 1 5 (m.Borders.length : Int) <;> cases okN 1 8 (m.Heights.length : Int) <;> cases decide (m.Sides.length ≤ 10) <;> cases decide (m.Like.length ≤ 8) <;> rfl
  rw [e3]
  cases hl : longM m with
  | false => rfl
  | true =>
    simp only [longM, okN, Bool.and_eq_true, decide_eq_true_eq] at hl
    obtain ⟨⟨⟨l1, l2⟩, l3⟩, l4⟩ := hl
    simp only [Bool.not_true, Bool.false_eq_true, if_false, if_true]
    rw [e52_1 (by omega), Option.bind_some]
    have e4 : optG (!(!okN 1 1000 m.Step)) (F52 k 1 6 [m.Inks]) = some (cond (okN 1 1000 m.Step) (!okN 1 6 m.Inks) default) := by
      rw [Bool.not_not]
      cases okN 1 1000 m.Step with
      | true => rw [optG_true, e52_1 (by omega)]; rfl
      | false => rfl
    rw [e4, Option.bind_some]
    have e5 : (cond (!okN 1 1000 m.Step) true (cond (okN 1 1000 m.Step) (!okN 1 6 m.Inks) default)) = !numsM m := by
      unfold numsM
      cases okN 1 1000 m.Step <;> cases okN 1 6 m.Inks <;> rfl
    rw [e5]
    cases hn : numsM m with
    | false => rfl
    | true =>
      simp only [numsM, okN, Bool.and_eq_true, decide_eq_true_eq] at hn
      simp only [Bool.not_true, Bool.false_eq_true, if_false, if_true]
      rw [e53 (by omega) (by omega) (by omega), Option.bind_some]
      cases h1 : fstE (spanE 20) m.Borders 0 with
      | inl p => simp only [outE, fstE_ne _ _ _ _ h1, if_true]
      | inr u =>
        simp only [outE, bne_self_eq_false, Bool.false_eq_true, if_false]
        rw [e53v (by omega) (by omega) (by omega), Option.bind_some]
        cases h2 : fstE (spanE 9000) m.Heights 0 with
        | inl p => simp only [outE, fstE_ne _ _ _ _ h2, if_true]
        | inr u =>
          simp only [outE, bne_self_eq_false, Bool.false_eq_true, if_false]
          rw [e57 (by omega) (by omega) (by omega) (by omega), Option.bind_some]
          cases h3 : fstE (pairE m.Heights.length) m.Sides 0 with
          | inl p => simp only [outE, fstE_ne _ _ _ _ h3, if_true]
          | inr u =>
            simp only [outE, bne_self_eq_false, Bool.false_eq_true, if_false]
            rw [e57v (by omega) (by omega) (by omega) (by omega) (by omega), Option.bind_some]
            cases h4 : fstE (pairE m.Inks) m.Like 0 with
            | inl p => simp only [outE, fstE_ne _ _ _ _ h4, if_true]
            | inr u => rfl
end Go.Proofs.Ytpkhbbboedoldaa
