/- What the functions of chapter 04 come to, in plain words: out, Check. -/
import Derived.Test.YtadejgckgnbaoaaX3
import Derived.Test.YtadejgckgnbaoaaDB
namespace Go.Proofs.Ytadejgckgnbaoaa
open Go Go.Sx
set_option linter.all false

abbrev P := S_api_CvPoint
abbrev R := S_api_CvRow

theorem e73 (n lo hi : Int) : F73 n lo hi = some (decide (n < lo) || decide (n > hi)) := by
  unfold F73; cases decide (n < lo) <;> rfl

theorem e79L1 {lo hi : Int} : ∀ (suf pre : List Int) (n : Nat) (c : Int), c = pre.length → (pre ++ suf).length < 2 ^ 62 → suf.length < n →
    ∃ o, F79L1 (pre ++ suf) lo hi n c = some o ∧ ((suf.any (fun n => decide (n < lo) || decide (n > hi)) = true ∧ ∃ i, o = .inl i ∧ 0 ≤ i) ∨ (suf.any (fun n => decide (n < lo) || decide (n > hi)) = false ∧ o = .inr ())) := by
  intro suf
  induction suf with
  | nil =>
    intro pre n c hc hl hn
    obtain ⟨n, rfl⟩ : ∃ m, n = m + 1 := ⟨n - 1, by simp at hn; omega⟩
    rw [F79L1, if_neg (by simp; omega)]
    exact ⟨_, rfl, .inr ⟨rfl, rfl⟩⟩
  | cons x suf ih =>
    intro pre n c hc hl hn
    obtain ⟨n, rfl⟩ : ∃ m, n = m + 1 := ⟨n - 1, by simp at hn; omega⟩
    simp only [List.length_append, List.length_cons] at hl hn
    rw [F79L1, if_pos (by simp; omega), idx_mid hc, Option.bind_some, e73, Option.bind_some, List.any_cons]
    cases hb : (decide (x < lo) || decide (x > hi)) with
    | true => simp only [if_true]; exact ⟨_, rfl, .inl ⟨rfl, c, rfl, by omega⟩⟩
    | false =>
      simp only [Bool.false_eq_true, if_false, Bool.false_or]
      rw [w64_id (by omega) (by omega)]
      have := ih (pre ++ [x]) n (c + 1) (by simp; omega) (by simp; omega) (by omega)
      simpa using this

theorem e49 {k : Nat} {l : List Int} {lo hi : Int} (hk : l.length < k) (hl : l.length < 2 ^ 62) : F49 k lo hi l = some (l.any fun n => decide (n < lo) || decide (n > hi)) := by
  unfold F49 F72 F79
  obtain ⟨o, h1, h2⟩ := e79L1 (lo := lo) (hi := hi) l [] k 0 rfl (by simpa using hl) hk
  rw [List.nil_append] at h1
  rw [h1]
  rcases h2 with ⟨h2, i, rfl, hi⟩ | ⟨h2, rfl⟩
  · simp [outK, h2, hi]
  · simp [outK, h2]

/-- A height is from 0 to 9000. -/
def okH (n : Int) : Bool := decide (0 ≤ n) && decide (n ≤ 9000)
/-- The first point with an error. -/
def chkL : List P → Int → (Int × Int × Int) ⊕ Unit
  | [], _ => .inr ()
  | p :: ps, i => if okH p.Board && okH p.Lo && okH p.Hi then (if decide (p.Lo ≤ p.Hi) && decide (p.Hi ≤ p.Lo + 30) then chkL ps (i + 1) else .inl (2, i, 2)) else .inl (2, i, 7)
def chk (r : R) : Int × Int × Int :=
  if decide (0 ≤ r.Steep) && decide (r.Steep ≤ 200) then (if decide (1 ≤ r.Points.length) && decide (r.Points.length ≤ 10) then (match chkL r.Points 0 with | .inl x => x | .inr _ => (0, 0, 0)) else (1, 0, 3)) else (1, 0, 7)

theorem e16L1 {k : Nat} (hk : 10 ≤ k) {r : R} : ∀ (suf pre : List P) (n : Nat) (c : Int), r.Points = pre ++ suf → c = pre.length → (pre ++ suf).length < 2 ^ 62 → suf.length < n → F16L1 k r n c = some (chkL suf c) := by
  intro suf
  induction suf with
  | nil =>
    intro pre n c hr hc hl hn
    obtain ⟨n, rfl⟩ : ∃ m, n = m + 1 := ⟨n - 1, by simp at hn; omega⟩
    rw [F16L1, if_neg (by rw [hr]; simp; omega)]; rfl
  | cons p suf ih =>
    intro pre n c hr hc hl hn
    obtain ⟨n, rfl⟩ : ∃ m, n = m + 1 := ⟨n - 1, by simp at hn; omega⟩
    simp only [List.length_append, List.length_cons] at hl hn
    rw [F16L1, if_pos (by rw [hr]; simp; omega), hr, idx_mid hc, Option.bind_some, e49 (by simp; omega) (by simp), Option.bind_some, chkL]
    simp only [List.any_cons, List.any_nil, Bool.or_false]
    have e : ((decide (p.Board < 0) || decide (p.Board > 9000)) || ((decide (p.Lo < 0) || decide (p.Lo > 9000)) || (decide (p.Hi < 0) || decide (p.Hi > 9000)))) = !(okH p.Board && okH p.Lo && okH p.Hi) := by
      rw [Bool.eq_iff_iff]; simp [okH]; omega
    rw [e]
    cases hb : (okH p.Board && okH p.Lo && okH p.Hi) with
    | false => rfl
    | true =>
      have hb' : okH p.Lo = true := by revert hb; cases okH p.Board <;> cases okH p.Lo <;> simp
      simp only [okH, Bool.and_eq_true, decide_eq_true_eq] at hb'
      simp only [Bool.not_true, Bool.false_eq_true, if_false, if_true]
      rw [w64_id (by omega) (by omega), e49 (by simp; omega) (by simp), Option.bind_some]
      have e2 : ([p.Hi] : List Int).any (fun n => decide (n < p.Lo) || decide (n > p.Lo + 30)) = !(decide (p.Lo ≤ p.Hi) && decide (p.Hi ≤ p.Lo + 30)) := by
        rw [Bool.eq_iff_iff]; simp only [List.any_cons, List.any_nil, Bool.or_false, Bool.or_eq_true, Bool.not_eq_true', Bool.and_eq_false_iff, decide_eq_true_eq, decide_eq_false_iff_not, Bool.and_eq_true, okH]; omega
      rw [e2]
      cases (decide (p.Lo ≤ p.Hi) && decide (p.Hi ≤ p.Lo + 30)) with
      | false => rfl
      | true =>
        simp only [Bool.not_true, Bool.false_eq_true, if_false, if_true]
        rw [w64_id (by omega) (by omega)]
        exact ih (pre ++ [p]) n (c + 1) (by simp [hr]) (by simp; omega) (by simp; omega) (by omega)

theorem e16 {k : Nat} (hk : 20 ≤ k) {r : R} : F16 k r = some (chk r) := by
  unfold F16 chk
  rw [e49 (by simp; omega) (by simp), Option.bind_some]
  have e : ([r.Steep] : List Int).any (fun n => decide (n < 0) || decide (n > 200)) = !(decide (0 ≤ r.Steep) && decide (r.Steep ≤ 200)) := by
    rw [Bool.eq_iff_iff]; simp only [List.any_cons, List.any_nil, Bool.or_false, Bool.or_eq_true, Bool.not_eq_true', Bool.and_eq_false_iff, decide_eq_true_eq, decide_eq_false_iff_not, Bool.and_eq_true, okH]; omega
  rw [e]
  cases (decide (0 ≤ r.Steep) && decide (r.Steep ≤ 200)) with
  | false => rfl
  | true =>
    simp only [Bool.not_true, Bool.false_eq_true, if_false, if_true]
    rw [e49 (by simp; omega) (by simp), Option.bind_some]
    have e2 : ([(r.Points.length : Int)] : List Int).any (fun n => decide (n < 1) || decide (n > 10)) = !(decide (1 ≤ r.Points.length) && decide (r.Points.length ≤ 10)) := by
      rw [Bool.eq_iff_iff]; simp only [List.any_cons, List.any_nil, Bool.or_false, Bool.or_eq_true, Bool.not_eq_true', Bool.and_eq_false_iff, decide_eq_true_eq, decide_eq_false_iff_not, Bool.and_eq_true, okH]; omega
    rw [e2]
    cases hb : (decide (1 ≤ r.Points.length) && decide (r.Points.length ≤ 10)) with
    | false => rfl
    | true =>
      simp only [Bool.and_eq_true, decide_eq_true_eq] at hb
      simp only [Bool.not_true, Bool.false_eq_true, if_false, if_true]
      rw [e16L1 (by omega) r.Points [] k 0 rfl rfl (by simp; omega) (by omega), Option.bind_some]
      cases chkL r.Points 0 <;> rfl

theorem e50 (n lo hi : Int) : F50 n lo hi = some (decide (lo ≤ n) && decide (n ≤ hi)) := by
  unfold F50; cases h : decide (n ≥ lo) <;> simp_all
theorem e50h (n : Int) : F50 n 0 9000 = some (okH n) := e50 n 0 9000
theorem e17L1 {r : R} : ∀ (suf pre : List P) (n : Nat) (c : Int), r.Points = pre ++ suf → c = pre.length → (pre ++ suf).length < 2 ^ 62 → suf.length < n → F17L1 r n c = some (chkL suf c) := by
  intro suf
  induction suf with
  | nil =>
    intro pre n c hr hc hl hn
    obtain ⟨n, rfl⟩ : ∃ m, n = m + 1 := ⟨n - 1, by simp at hn; omega⟩
    rw [F17L1, if_neg (by rw [hr]; simp; omega)]; rfl
  | cons p suf ih =>
    intro pre n c hr hc hl hn
    obtain ⟨n, rfl⟩ : ∃ m, n = m + 1 := ⟨n - 1, by simp at hn; omega⟩
    simp only [List.length_append, List.length_cons] at hl hn
    rw [F17L1, if_pos (by rw [hr]; simp; omega), hr, idx_mid hc, Option.bind_some, e50h, e50h, e50h, Option.bind_some, chkL]
    cases hb : okH p.Board with
    | false => rfl
    | true =>
      cases hl' : okH p.Lo with
      | false => rfl
      | true =>
        cases hh : okH p.Hi with
        | false => rfl
        | true =>
          simp only [okH, Bool.and_eq_true, decide_eq_true_eq] at hl'
          rw [e50]
          simp only [cond_true, Bool.not_true, cond_false, Bool.false_eq_true, if_false, Option.bind_some, Bool.not_false, optG_true]
          rw [w64_id (by omega) (by omega)]
          cases (decide (p.Lo ≤ p.Hi) && decide (p.Hi ≤ p.Lo + 30)) with
          | false => rfl
          | true =>
            simp only [Bool.not_true, Bool.false_eq_true, if_false, if_true, Bool.and_self]
            rw [w64_id (by omega) (by omega)]
            exact ih (pre ++ [p]) n (c + 1) (by simp [hr]) (by simp; omega) (by simp; omega) (by omega)
theorem e17 {k : Nat} (hk : 20 ≤ k) {r : R} : F17 k r = some (chk r) := by
  unfold F17 chk
  rw [e50, Option.bind_some]
  cases (decide (0 ≤ r.Steep) && decide (r.Steep ≤ 200)) with
  | false => rfl
  | true =>
    simp only [Bool.not_true, Bool.false_eq_true, if_false, if_true]
    rw [e50, Option.bind_some]
    have e2 : (decide (1 ≤ (r.Points.length : Int)) && decide ((r.Points.length : Int) ≤ 10)) = (decide (1 ≤ r.Points.length) && decide (r.Points.length ≤ 10)) := by
      rw [Bool.eq_iff_iff]; simp only [List.any_cons, List.any_nil, Bool.or_false, Bool.or_eq_true, Bool.not_eq_true', Bool.and_eq_false_iff, decide_eq_true_eq, decide_eq_false_iff_not, Bool.and_eq_true, okH]; omega
    rw [e2]
    cases hb : (decide (1 ≤ r.Points.length) && decide (r.Points.length ≤ 10)) with
    | false => rfl
    | true =>
      simp only [Bool.and_eq_true, decide_eq_true_eq] at hb
      simp only [Bool.not_true, Bool.false_eq_true, if_false, if_true]
      rw [e17L1 r.Points [] k 0 rfl rfl (by simp; omega) (by omega), Option.bind_some]
      cases chkL r.Points 0 <;> rfl

/-- A row without an error. -/
structure Good (r : R) : Prop where
  s0 : 0 ≤ r.Steep
  s1 : r.Steep ≤ 200
  n0 : 1 ≤ r.Points.length
  n1 : r.Points.length ≤ 10
  pt : ∀ p ∈ r.Points, (0 ≤ p.Board ∧ p.Board ≤ 9000) ∧ (0 ≤ p.Lo ∧ p.Lo ≤ 9000) ∧ (0 ≤ p.Hi ∧ p.Hi ≤ 9000) ∧ p.Lo ≤ p.Hi ∧ p.Hi ≤ p.Lo + 30
theorem chkL_spec : ∀ (l : List P) (i : Int), (chkL l i = .inr () ∧ ∀ p ∈ l, (0 ≤ p.Board ∧ p.Board ≤ 9000) ∧ (0 ≤ p.Lo ∧ p.Lo ≤ 9000) ∧ (0 ≤ p.Hi ∧ p.Hi ≤ 9000) ∧ p.Lo ≤ p.Hi ∧ p.Hi ≤ p.Lo + 30) ∨
    (∃ x, chkL l i = .inl x ∧ x.2.2 ≠ 0 ∧ ¬ ∀ p ∈ l, (0 ≤ p.Board ∧ p.Board ≤ 9000) ∧ (0 ≤ p.Lo ∧ p.Lo ≤ 9000) ∧ (0 ≤ p.Hi ∧ p.Hi ≤ 9000) ∧ p.Lo ≤ p.Hi ∧ p.Hi ≤ p.Lo + 30) := by
  intro l
  induction l with
  | nil => intro i; exact .inl ⟨rfl, fun p h => by cases h⟩
  | cons p l ih =>
    intro i
    rw [chkL]
    by_cases h1 : (okH p.Board && okH p.Lo && okH p.Hi) = true
    · rw [if_pos h1]
      simp only [okH, Bool.and_eq_true, decide_eq_true_eq] at h1
      by_cases h2 : (decide (p.Lo ≤ p.Hi) && decide (p.Hi ≤ p.Lo + 30)) = true
      · rw [if_pos h2]
        simp only [Bool.and_eq_true, decide_eq_true_eq] at h2
        rcases ih (i + 1) with ⟨a, b⟩ | ⟨x, a, b, c⟩
        · refine .inl ⟨a, fun q hq => ?_⟩
          rcases List.mem_cons.1 hq with rfl | hq
          · exact ⟨h1.1.1, h1.1.2, h1.2, h2.1, h2.2⟩
          · exact b q hq
        · exact .inr ⟨x, a, b, fun h => c fun q hq => h q (by simp [hq])⟩
      · rw [if_neg h2]
        simp only [Bool.and_eq_true, decide_eq_true_eq] at h2
        exact .inr ⟨_, rfl, by simp, fun h => h2 ⟨(h p (by simp)).2.2.2.1, (h p (by simp)).2.2.2.2⟩⟩
    · rw [if_neg h1]
      simp only [okH, Bool.and_eq_true, decide_eq_true_eq] at h1
      exact .inr ⟨_, rfl, by simp, fun h => h1 ⟨⟨(h p (by simp)).1, (h p (by simp)).2.1⟩, (h p (by simp)).2.2.1⟩⟩
theorem chk_spec (r : R) : (chk r = (0, 0, 0) ∧ Good r) ∨ ((chk r).2.2 ≠ 0 ∧ ¬ Good r) := by
  unfold chk
  by_cases h1 : (decide (0 ≤ r.Steep) && decide (r.Steep ≤ 200)) = true
  · rw [if_pos h1]
    simp only [Bool.and_eq_true, decide_eq_true_eq] at h1
    by_cases h2 : (decide (1 ≤ r.Points.length) && decide (r.Points.length ≤ 10)) = true
    · rw [if_pos h2]
      simp only [Bool.and_eq_true, decide_eq_true_eq] at h2
      rcases chkL_spec r.Points 0 with ⟨a, b⟩ | ⟨x, a, b, c⟩
      · rw [a]; exact .inl ⟨rfl, h1.1, h1.2, h2.1, h2.2, b⟩
      · rw [a]; exact .inr ⟨b, fun h => c h.pt⟩
    · rw [if_neg h2]
      simp only [Bool.and_eq_true, decide_eq_true_eq] at h2
      exact .inr ⟨by simp, fun h => h2 ⟨h.n0, h.n1⟩⟩
  · rw [if_neg h1]
    simp only [Bool.and_eq_true, decide_eq_true_eq] at h1
    exact .inr ⟨by simp, fun h => h1 ⟨h.s0, h.s1⟩⟩
theorem chk_good {r : R} (h : Good r) : chk r = (0, 0, 0) := by
  rcases chk_spec r with ⟨a, _⟩ | ⟨_, b⟩
  · exact a
  · exact absurd h b
theorem chk_bad {r : R} (h : ¬ Good r) : (chk r).2.2 ≠ 0 := by
  rcases chk_spec r with ⟨_, b⟩ | ⟨a, _⟩
  · exact absurd b h
  · exact a
end Go.Proofs.Ytadejgckgnbaoaa
