/- What the functions of chapter 09 come to, in plain words: the reference's Check; CheckLegend. -/
import Derived.Test.YtpkhbbboedoldaaPB
import Derived.Test.YtpkhbbboedoldaaDQ
namespace Go.Proofs.Ytpkhbbboedoldaa
open Go Go.Sx
set_option linter.all false

theorem e61 (n lo hi : Int) : F61 n lo hi = some (okN lo hi n) := by
  unfold F61 okN; cases h : decide (n ≥ lo) <;> simp_all
theorem e91 (n lo hi : Int) : F91 n lo hi = some (okN lo hi n) := by
  unfold F91 okN; cases h : decide (n ≥ lo) <;> simp_all

/-- The error of a span, of the reference. -/
def rangeE (s : Sp) : Int := if okN 0 9000 s.Lo && okN 0 9000 s.Hi then (if decide (s.Lo > s.Hi) then 2 else 0) else 7
theorem e62 {k : Nat} (hk : 2 ≤ k) {s : Sp} : F62 k s 0 9000 = some (rangeE s) := by
  obtain ⟨n, rfl⟩ : ∃ n, k = n + 2 := ⟨k - 2, by omega⟩
  unfold F62 F81 rangeE
  rw [F81L1]
  have hi : idx [s] 0 = some s := rfl
  have h0 : decide ((0 : Int) < (([s] : List S_api_Span).length : Int)) = true := by simp
  simp only [h0, if_true, hi, Option.bind_some, e91]
  cases h1 : okN 0 9000 s.Lo with
  | false => rfl
  | true =>
    simp only [Bool.not_true, Bool.not_false, optG_true, Option.bind_some, e91]
    cases h2 : okN 0 9000 s.Hi with
    | false => rfl
    | true =>
      have hw : w64 (0 + 1) = 1 := by decide
      have hl : ∀ c, F81L1 [s] 0 9000 (n + 1) (c, 1) = some (.inr c) := by
        intro c
        rw [F81L1]
        have h0 : decide ((1 : Int) < (([s] : List S_api_Span).length : Int)) = false := by simp
        simp [h0]
      simp only [Bool.not_true, cond_false, Bool.false_eq_true, if_false, hw, hl, Bool.and_self, if_true]
      cases decide (s.Lo > s.Hi) <;> rfl
theorem range20 (s : Sp) : spanE 20 s = (if (rangeE s == 0) && decide (s.Hi > s.Lo + 20) then 2 else rangeE s) := by
  unfold spanE rangeE okN
  by_cases h1 : 0 ≤ s.Lo <;> by_cases h2 : s.Lo ≤ 9000 <;> by_cases h3 : 0 ≤ s.Hi <;> by_cases h4 : s.Hi ≤ 9000 <;> simp [h1, h2, h3, h4]
  by_cases h5 : s.Hi < s.Lo
  · simp [h5, show ¬ s.Lo ≤ s.Hi by omega]
  · by_cases h6 : s.Lo + 20 < s.Hi
    · simp [h5, h6, show s.Lo ≤ s.Hi by omega, show ¬ s.Hi ≤ s.Lo + 20 by omega]
    · simp [h5, h6, show s.Lo ≤ s.Hi by omega, show s.Hi ≤ s.Lo + 20 by omega]
theorem range9000 (s : Sp) : spanE 9000 s = rangeE s := by
  unfold spanE rangeE okN
  by_cases h1 : 0 ≤ s.Lo <;> by_cases h2 : s.Lo ≤ 9000 <;> by_cases h3 : 0 ≤ s.Hi <;> by_cases h4 : s.Hi ≤ 9000 <;> simp [h1, h2, h3, h4]
  by_cases h5 : s.Hi < s.Lo
  · simp [h5, show ¬ s.Lo ≤ s.Hi by omega]
  · simp [h5, show s.Lo ≤ s.Hi by omega, show s.Hi ≤ s.Lo + 9000 by omega]
theorem e63 {p : Pr} {below : Int} (h0 : -2 ^ 62 ≤ below) (h1 : below ≤ 2 ^ 62) : F63 p below = some (pairE below p) := by
  unfold F63 pairE
  rw [w64_id (by omega) (by omega), e61, Option.bind_some, e61]
  cases okN 0 (below - 1) p.A with
  | false => rfl
  | true =>
    simp only [Bool.not_true, Bool.not_false, optG_true, Option.bind_some, cond_false]
    cases okN 0 (below - 1) p.B with
    | false => rfl
    | true =>
      simp only [Bool.not_true, Bool.false_eq_true, if_false, if_true, Bool.and_self]
      cases p.A == p.B <;> rfl

def tag (p : Int) (o : (Int × Int) ⊕ Unit) : (Int × Int × Int) ⊕ Unit := match o with | .inl q => .inl (p, q) | .inr u => .inr u
theorem tag_loop {α : Type} {l : List α} {p : Int} {L : Nat → Int → Option ((Int × Int × Int) ⊕ Unit)} {f : α → Option Int} {g : α → Int} (hf : ∀ x ∈ l, f x = some (g x)) (h62 : l.length < 2 ^ 62)
    (hL : ∀ n c, c < 2 ^ 62 → L (n + 1) c = if (decide (c < (l.length : Int))) then ((idx l c).bind fun x => (f x).bind fun e => if (e != 0) then (some (.inl (p, c, e))) else (L n (w64 (c + 1)))) else (some (.inr ()))) :
    ∀ (suf pre : List α) (n : Nat) (c : Int), l = pre ++ suf → c = pre.length → suf.length < n → L n c = some (tag p (fstE g suf c)) := by
  intro suf
  induction suf with
  | nil =>
    intro pre n c hl hc hn
    obtain ⟨n, rfl⟩ : ∃ m, n = m + 1 := ⟨n - 1, by simp at hn; omega⟩
    have : l.length = pre.length := by rw [hl]; simp
    rw [hL _ _ (by omega), if_neg (by rw [hl]; simp; omega)]; rfl
  | cons x suf ih =>
    intro pre n c hl hc hn
    obtain ⟨n, rfl⟩ : ∃ m, n = m + 1 := ⟨n - 1, by simp at hn; omega⟩
    have hlen : l.length = pre.length + (suf.length + 1) := by rw [hl]; simp
    simp only [List.length_cons] at hn
    rw [hL _ _ (by omega), if_pos (by simp; omega)]
    rw [show idx l c = some x by rw [hl]; exact idx_mid hc, Option.bind_some, hf x (by rw [hl]; simp), Option.bind_some, fstE]
    cases g x != 0 with
    | true => rfl
    | false =>
      simp only [Bool.false_eq_true, if_false]
      rw [w64_id (by omega) (by omega)]
      exact ih (pre ++ [x]) n (c + 1) (by simp [hl]) (by simp; omega) (by omega)

theorem e18L1 {k : Nat} (hk : 20 ≤ k) {m : Mp} (h : m.Borders.length ≤ 5) : F18L1 k m k 0 = some (tag 2 (fstE (spanE 20) m.Borders 0)) := by
  refine tag_loop (l := m.Borders) (L := F18L1 k m) (f := fun s => some (spanE 20 s)) (fun _ _ => rfl) (by omega) ?_ m.Borders [] k 0 rfl rfl (by omega)
  intro n c hc
  rw [F18L1]
  by_cases h0 : c < (m.Borders.length : Int)
  · simp only [h0, decide_true, if_true]
    cases hx : idx m.Borders c with
    | none => rfl
    | some s =>
      simp only [Option.bind_some]
      rw [e62 (by omega), Option.bind_some]
      rw [range20]
      cases h1 : (rangeE s == 0) with
      | false =>
        simp only [optG_false, Option.bind_some, cond_false, Bool.false_eq_true, if_false, Bool.false_and, outK_inr]
      | true =>
        have hs : 0 ≤ s.Lo ∧ s.Lo ≤ 9000 := by
          unfold rangeE okN at h1
          by_cases q : 0 ≤ s.Lo ∧ s.Lo ≤ 9000
          · exact q
          · have : (decide (0 ≤ s.Lo) && decide (s.Lo ≤ 9000)) = false := by simp; omega
            simp [this] at h1
        simp only [optG_true, Option.bind_some, cond_true, Bool.true_and]
        rw [w64_id (by omega) (by omega)]
        cases decide (s.Hi > s.Lo + 20) <;> simp only [Bool.false_eq_true, if_false, if_true, Option.bind_some, outK_inr]
  · simp only [h0, decide_false, Bool.false_eq_true, if_false]
theorem e18L2 {k : Nat} (hk : 20 ≤ k) {m : Mp} (h : m.Heights.length ≤ 8) : F18L2 k m k 0 = some (tag 3 (fstE (spanE 9000) m.Heights 0)) := by
  refine tag_loop (l := m.Heights) (L := F18L2 k m) (f := fun s => F62 k s 0 9000) (fun x _ => by rw [e62 (by omega), range9000]) (by omega) (fun n c _ => rfl) m.Heights [] k 0 rfl rfl (by omega)
theorem e18L3 {k : Nat} (hk : 20 ≤ k) {m : Mp} (h : m.Sides.length ≤ 10) (hh : m.Heights.length ≤ 8) : F18L3 m k 0 = some (tag 4 (fstE (pairE m.Heights.length) m.Sides 0)) := by
  refine tag_loop (l := m.Sides) (L := F18L3 m) (f := fun s => F63 s (m.Heights.length : Int)) (fun x _ => e63 (by omega) (by omega)) (by omega) (fun n c _ => rfl) m.Sides [] k 0 rfl rfl (by omega)
theorem e18L4 {k : Nat} (hk : 20 ≤ k) {m : Mp} (h : m.Like.length ≤ 8) (h1 : 1 ≤ m.Inks) (h2 : m.Inks ≤ 6) : F18L4 m k 0 = some (tag 5 (fstE (pairE m.Inks) m.Like 0)) := by
  refine tag_loop (l := m.Like) (L := F18L4 m) (f := fun s => F63 s m.Inks) (fun x _ => e63 (by omega) (by omega)) (by omega) (fun n c _ => rfl) m.Like [] k 0 rfl rfl (by omega)

theorem e18 {k : Nat} (hk : 20 ≤ k) {m : Mp} : F18 k m = some (chk m) := by
  unfold F18 chk
  rw [e61, Option.bind_some, e61]
  have e2 : optG (!(!okN 1 5 (m.Borders.length : Int))) (some (okN 1 8 (m.Heights.length : Int))) = some (cond (okN 1 5 (m.Borders.length : Int)) (okN 1 8 (m.Heights.length : Int)) default) := by
    cases okN 1 5 (m.Borders.length : Int) <;> rfl
  rw [e2, Option.bind_some]
  have e3 : (cond (cond (cond (!okN 1 5 (m.Borders.length : Int)) true (!(cond (okN 1 5 (m.Borders.length : Int)) (okN 1 8 (m.Heights.length : Int)) default))) true (decide ((m.Sides.length : Int) > 10))) true (decide ((m.Like.length : Int) > 8))) = !longM m := by
    unfold longM
    have h3 : decide ((m.Sides.length : Int) > 10) = !decide (m.Sides.length ≤ 10) := by rw [Bool.eq_iff_iff]; simp; omega
    have h4 : decide ((m.Like.length : Int) > 8) = !decide (m.Like.length ≤ 8) := by rw [Bool.eq_iff_iff]; simp; omega
    rw [h3, h4]
    cases okN 1 5 (m.Borders.length : Int) <;> cases okN 1 8 (m.Heights.length : Int) <;> cases decide (m.Sides.length ≤ 10) <;> cases decide (m.Like.length ≤ 8) <;> rfl
  rw [e3]
  cases hl : longM m with
  | false => rfl
  | true =>
    simp only [longM, okN, Bool.and_eq_true, decide_eq_true_eq] at hl
    obtain ⟨⟨⟨l1, l2⟩, l3⟩, l4⟩ := hl
    simp only [Bool.not_true, Bool.false_eq_true, if_false, if_true]
    rw [e61, Option.bind_some, e61]
    have e4 : optG (!(!okN 1 1000 m.Step)) (some (okN 1 6 m.Inks)) = some (cond (okN 1 1000 m.Step) (okN 1 6 m.Inks) default) := by
      cases okN 1 1000 m.Step <;> rfl
    rw [e4, Option.bind_some]
    have e5 : (cond (!okN 1 1000 m.Step) true (!(cond (okN 1 1000 m.Step) (okN 1 6 m.Inks) default))) = !numsM m := by
      unfold numsM
      cases okN 1 1000 m.Step <;> cases okN 1 6 m.Inks <;> rfl
    rw [e5]
    cases hn : numsM m with
    | false => rfl
    | true =>
      simp only [numsM, okN, Bool.and_eq_true, decide_eq_true_eq] at hn
      simp only [Bool.not_true, Bool.false_eq_true, if_false, if_true]
      rw [e18L1 hk (by omega), Option.bind_some]
      cases h1 : fstE (spanE 20) m.Borders 0 with
      | inl p => rfl
      | inr u =>
        simp only [tag, outK_inr]
        rw [e18L2 hk (by omega), Option.bind_some]
        cases h2 : fstE (spanE 9000) m.Heights 0 with
        | inl p => rfl
        | inr u =>
          simp only [tag, outK_inr]
          rw [e18L3 hk (by omega) (by omega), Option.bind_some]
          cases h3 : fstE (pairE m.Heights.length) m.Sides 0 with
          | inl p => rfl
          | inr u =>
            simp only [tag, outK_inr]
            rw [e18L4 hk (by omega) (by omega) (by omega), Option.bind_some]
            cases h4 : fstE (pairE m.Inks) m.Like 0 with
            | inl p => rfl
            | inr u => rfl
end Go.Proofs.Ytpkhbbboedoldaa
