/- What the functions of chapter 09 come to, in plain words: good maps; CheckLegend. -/
import Derived.Test.YtpkhbbboedoldaaPC
namespace Go.Proofs.Ytpkhbbboedoldaa
open Go Go.Sx
set_option linter.all false

/-- A map without an error. -/
structure GoodM (m : Mp) : Prop where
  b0 : 1 ≤ m.Borders.length
  b1 : m.Borders.length ≤ 5
  h0 : 1 ≤ m.Heights.length
  h1 : m.Heights.length ≤ 8
  s1 : m.Sides.length ≤ 10
  l1 : m.Like.length ≤ 8
  st0 : 1 ≤ m.Step
  st1 : m.Step ≤ 1000
  i0 : 1 ≤ m.Inks
  i1 : m.Inks ≤ 6
  bor : ∀ s ∈ m.Borders, 0 ≤ s.Lo ∧ s.Lo ≤ s.Hi ∧ s.Hi ≤ 9000 ∧ s.Hi ≤ s.Lo + 20
  hei : ∀ s ∈ m.Heights, 0 ≤ s.Lo ∧ s.Lo ≤ s.Hi ∧ s.Hi ≤ 9000
  sid : ∀ p ∈ m.Sides, (0 ≤ p.A ∧ p.A < m.Heights.length) ∧ (0 ≤ p.B ∧ p.B < m.Heights.length) ∧ p.A ≠ p.B
  lik : ∀ p ∈ m.Like, (0 ≤ p.A ∧ p.A < m.Inks) ∧ (0 ≤ p.B ∧ p.B < m.Inks) ∧ p.A ≠ p.B

theorem fstE_inr {α : Type} (g : α → Int) : ∀ (l : List α) (i : Int) u, fstE g l i = .inr u → ∀ x ∈ l, g x = 0 := by
  intro l
  induction l with
  | nil => intro i u _ x hx; simp at hx
  | cons y ys ih =>
    intro i u h x hx
    simp only [fstE] at h
    split at h
    · simp at h
    · rename_i hy
      rcases List.mem_cons.1 hx with rfl | hx
      · simpa using hy
      · exact ih _ _ h x hx
theorem fstE_all {α : Type} (g : α → Int) : ∀ (l : List α) (i : Int), (∀ x ∈ l, g x = 0) → fstE g l i = .inr () := by
  intro l
  induction l with
  | nil => intro i _; rfl
  | cons y ys ih =>
    intro i h
    simp only [fstE, h y (by simp), bne_self_eq_false, Bool.false_eq_true, if_false]
    exact ih _ fun x hx => h x (by simp [hx])
theorem spanE_zero {w : Int} {s : Sp} : spanE w s = 0 ↔ 0 ≤ s.Lo ∧ s.Lo ≤ s.Hi ∧ s.Hi ≤ 9000 ∧ s.Hi ≤ s.Lo + w := by
  unfold spanE okN
  by_cases h1 : 0 ≤ s.Lo <;> by_cases h2 : s.Lo ≤ 9000 <;> by_cases h3 : 0 ≤ s.Hi <;> by_cases h4 : s.Hi ≤ 9000 <;> by_cases h5 : s.Lo ≤ s.Hi <;> by_cases h6 : s.Hi ≤ s.Lo + w <;> simp [h1, h2, h3, h4, h5, h6] <;> omega
theorem pairE_zero {n : Int} {p : Pr} : pairE n p = 0 ↔ (0 ≤ p.A ∧ p.A < n) ∧ (0 ≤ p.B ∧ p.B < n) ∧ p.A ≠ p.B := by
  unfold pairE okN
  by_cases h1 : 0 ≤ p.A <;> by_cases h2 : p.A ≤ n - 1 <;> by_cases h3 : 0 ≤ p.B <;> by_cases h4 : p.B ≤ n - 1 <;> by_cases h5 : p.A = p.B <;> simp [h1, h2, h3, h4, h5] <;> omega

theorem chk_good {m : Mp} : (chk m).2.2 = 0 ↔ GoodM m := by
  constructor
  · intro h
    unfold chk at h
    split at h
    · rename_i hl
      split at h
      · rename_i hn
        simp only [longM, numsM, okN, Bool.and_eq_true, decide_eq_true_eq] at hl hn
        cases h1 : fstE (spanE 20) m.Borders 0 with
        | inl p => simp only [h1] at h; have := fstE_ne _ _ _ _ h1; simp at this; omega
        | inr u =>
          cases h2 : fstE (spanE 9000) m.Heights 0 with
          | inl p => simp only [h1, h2] at h; have := fstE_ne _ _ _ _ h2; simp at this; omega
          | inr u =>
            cases h3 : fstE (pairE m.Heights.length) m.Sides 0 with
            | inl p => simp only [h1, h2, h3] at h; have := fstE_ne _ _ _ _ h3; simp at this; omega
            | inr u =>
              cases h4 : fstE (pairE m.Inks) m.Like 0 with
              | inl p => simp only [h1, h2, h3, h4] at h; have := fstE_ne _ _ _ _ h4; simp at this; omega
              | inr u =>
                have k1 := fstE_inr _ _ _ _ h1
                have k2 := fstE_inr _ _ _ _ h2
                have k3 := fstE_inr _ _ _ _ h3
                have k4 := fstE_inr _ _ _ _ h4
                refine ⟨by omega, by omega, by omega, by omega, by omega, by omega, by omega, by omega, by omega, by omega, fun s hs => spanE_zero.1 (k1 s hs), fun s hs => ?_, fun p hp => pairE_zero.1 (k3 p hp), fun p hp => pairE_zero.1 (k4 p hp)⟩
                have := spanE_zero.1 (k2 s hs)
                omega
      · simp at h
    · simp at h
  · intro g
    have hl : longM m = true := by
      have := g.b0; have := g.b1; have := g.h0; have := g.h1; have := g.s1; have := g.l1
      simp only [longM, okN, Bool.and_eq_true, decide_eq_true_eq]; omega
    have hn : numsM m = true := by
      have := g.st0; have := g.st1; have := g.i0; have := g.i1
      simp only [numsM, okN, Bool.and_eq_true, decide_eq_true_eq]; omega
    unfold chk
    rw [if_pos hl, if_pos hn, fstE_all _ _ _ (fun s hs => spanE_zero.2 (g.bor s hs)), fstE_all _ _ _ (fun s hs => spanE_zero.2 (by have := g.hei s hs; omega)), fstE_all _ _ _ (fun p hp => pairE_zero.2 (g.sid p hp)), fstE_all _ _ _ (fun p hp => pairE_zero.2 (g.lik p hp))]

/-- A number that comes too early behind another one. -/
def early (step : Int) (prev : Option Int) (n : Int) : Bool := match prev with | some q => decide (n < q + step) | none => false
/-- The first number of a legend with an error. -/
def legE (step : Int) : Option Int → List Int → List Sp → Int → (Int × Int) ⊕ Unit
  | _, [], _, _ => .inr ()
  | _, _ :: _, [], _ => .inr ()
  | prev, n :: ns, b :: bs, i =>
    if okN b.Lo b.Hi n then (if early step prev n then .inl (i, 2) else legE step (some n) ns bs (i + 1)) else .inl (i, 7)
theorem legE_cons {step : Int} {prev : Option Int} {n : Int} {ns : List Int} {b : Sp} {bs : List Sp} {i : Int} : legE step prev (n :: ns) (b :: bs) i =
    if okN b.Lo b.Hi n then (if early step prev n then .inl (i, 2) else legE step (some n) ns bs (i + 1)) else .inl (i, 7) := rfl
def chkLeg (m : Mp) (l : List Int) : Int × Int :=
  if (chk m).2.2 != 0 then (0, (chk m).2.2) else (if l.length = m.Borders.length then outE (legE m.Step none l m.Borders 0) else (0, 3))

theorem e19L1 {k : Nat} (hk : 20 ≤ k) {m : Mp} (g : GoodM m) {l : List Int} : ∀ (suf pre : List Int) (bs bpre : List Sp) (n : Nat) (c : Int) (prev : Option Int), l = pre ++ suf → m.Borders = bpre ++ bs → bpre.length = pre.length → bs.length = suf.length → c = pre.length → suf.length < n →
    prev = pre.getLast? → (∀ q, prev = some q → 0 ≤ q ∧ q ≤ 9000) → F19L1 k m l n c = some (legE m.Step prev suf bs c) := by
  intro suf
  induction suf with
  | nil =>
    intro pre bs bpre n c prev hl hb hbp hbs hc hn hp hq
    obtain ⟨n, rfl⟩ : ∃ m, n = m + 1 := ⟨n - 1, by simp at hn; omega⟩
    rw [F19L1, if_neg (by rw [hl]; simp; omega)]
    cases bs <;> cases prev <;> rfl
  | cons x suf ih =>
    intro pre bs bpre n c prev hl hb hbp hbs hc hn hp hq
    obtain ⟨n, rfl⟩ : ∃ m, n = m + 1 := ⟨n - 1, by simp at hn; omega⟩
    cases bs with
    | nil => simp at hbs
    | cons b bs =>
      have hb1 := g.b1
      have hbl : m.Borders.length = bpre.length + (bs.length + 1) := by rw [hb]; simp
      simp only [List.length_cons] at hn hbs
      have hlen : l.length = pre.length + (suf.length + 1) := by rw [hl]; simp
      have hib : idx m.Borders c = some b := by rw [hb]; exact idx_mid (by omega)
      rw [F19L1, if_pos (by simp; omega), show idx l c = some x by rw [hl]; exact idx_mid hc, Option.bind_some, hib, Option.bind_some, Option.bind_some, e52_1 (by omega), Option.bind_some, legE_cons]
      have hg := g.bor b (by rw [hb]; simp)
      cases hx : okN b.Lo b.Hi x with
      | false => rfl
      | true =>
        simp only [okN, Bool.and_eq_true, decide_eq_true_eq] at hx
        simp only [Bool.not_true, Bool.false_eq_true, if_false, if_true]
        have hst := g.st0
        have hst1 := g.st1
        have hnext : F19L1 k m l n (w64 (c + 1)) = some (legE m.Step (some x) suf bs (c + 1)) := by
          rw [w64_id (by omega) (by omega)]
          exact ih (pre ++ [x]) bs (bpre ++ [b]) n (c + 1) (some x) (by simp [hl]) (by simp [hb]) (by simp; omega) (by omega) (by simp; omega) (by omega) (by simp) (fun q hq => by simp at hq; subst hq; omega)
        rcases List.eq_nil_or_concat pre with rfl | ⟨pre', q, rfl⟩
        · have h0 : decide (c > 0) = false := by simp at hc; simp [hc]
          simp at hp; subst hp
          simp only [h0, optG_false, Option.bind_some, cond_false, Bool.false_eq_true, if_false, hnext, early]
        · simp only [List.concat_eq_append, List.length_append, List.length_cons, List.length_nil] at hc hlen hbp
          have h0 : decide (c > 0) = true := by simp; omega
          have hp' : prev = some q := by rw [hp]; simp
          have hqb := hq q hp'
          subst hp'
          have hi : idx l (w64 (c - 1)) = some q := by
            rw [w64_id (by omega) (by omega), hl, List.concat_eq_append, List.append_assoc]
            exact idx_mid (by omega)
          simp only [h0, optG_true, hi, Option.bind_some, cond_true]
          rw [w64_id (by omega) (by omega), hnext]
          by_cases hx2 : x < q + m.Step <;> simp [hx2, early]
theorem e20L1 {k : Nat} (hk : 20 ≤ k) {m : Mp} (g : GoodM m) {l : List Int} : ∀ (suf pre : List Int) (bs bpre : List Sp) (n : Nat) (c : Int) (prev : Option Int), l = pre ++ suf → m.Borders = bpre ++ bs → bpre.length = pre.length → bs.length = suf.length → c = pre.length → suf.length < n →
    prev = pre.getLast? → (∀ q, prev = some q → 0 ≤ q ∧ q ≤ 9000) → F20L1 m l n c = some (legE m.Step prev suf bs c) := by
  intro suf
  induction suf with
  | nil =>
    intro pre bs bpre n c prev hl hb hbp hbs hc hn hp hq
    obtain ⟨n, rfl⟩ : ∃ m, n = m + 1 := ⟨n - 1, by simp at hn; omega⟩
    rw [F20L1, if_neg (by rw [hl]; simp; omega)]
    cases bs <;> cases prev <;> rfl
  | cons x suf ih =>
    intro pre bs bpre n c prev hl hb hbp hbs hc hn hp hq
    obtain ⟨n, rfl⟩ : ∃ m, n = m + 1 := ⟨n - 1, by simp at hn; omega⟩
    cases bs with
    | nil => simp at hbs
    | cons b bs =>
      have hb1 := g.b1
      have hbl : m.Borders.length = bpre.length + (bs.length + 1) := by rw [hb]; simp
      simp only [List.length_cons] at hn hbs
      have hlen : l.length = pre.length + (suf.length + 1) := by rw [hl]; simp
      have hib : idx m.Borders c = some b := by rw [hb]; exact idx_mid (by omega)
      have hix : idx l c = some x := by rw [hl]; exact idx_mid hc
      rw [F20L1, if_pos (by simp; omega), hix, Option.bind_some, hib, Option.bind_some, Option.bind_some, e61, Option.bind_some, legE_cons]
      have hg := g.bor b (by rw [hb]; simp)
      cases hx : okN b.Lo b.Hi x with
      | false => rfl
      | true =>
        simp only [okN, Bool.and_eq_true, decide_eq_true_eq] at hx
        simp only [Bool.not_true, Bool.false_eq_true, if_false, if_true]
        have hst := g.st0
        have hst1 := g.st1
        have hnext : F20L1 m l n (w64 (c + 1)) = some (legE m.Step (some x) suf bs (c + 1)) := by
          rw [w64_id (by omega) (by omega)]
          exact ih (pre ++ [x]) bs (bpre ++ [b]) n (c + 1) (some x) (by simp [hl]) (by simp [hb]) (by simp; omega) (by omega) (by simp; omega) (by omega) (by simp) (fun q hq => by simp at hq; subst hq; omega)
        rcases List.eq_nil_or_concat pre with rfl | ⟨pre', q, rfl⟩
        · have h0 : decide (c > 0) = false := by simp at hc; simp [hc]
          simp at hp; subst hp
          simp only [h0, optG_false, Option.bind_some, cond_false, Bool.false_eq_true, if_false, hnext, early]
        · simp only [List.concat_eq_append, List.length_append, List.length_cons, List.length_nil] at hc hlen hbp
          have h0 : decide (c > 0) = true := by simp; omega
          have hp' : prev = some q := by rw [hp]; simp
          have hqb := hq q hp'
          subst hp'
          have hi : idx l (w64 (c - 1)) = some q := by
            rw [w64_id (by omega) (by omega), hl, List.concat_eq_append, List.append_assoc]
            exact idx_mid (by omega)
          simp only [h0, optG_true, hi, Option.bind_some, cond_true]
          rw [w64_id (by omega) (by omega), hnext]
          by_cases hx2 : x < q + m.Step <;> simp [hx2, early]

theorem e19 {k : Nat} (hk : 20 ≤ k) {m : Mp} {l : List Int} : F19 k m l = some (chkLeg m l) := by
  unfold F19 chkLeg
  rw [e17 hk, Option.bind_some]
  cases h : (chk m).2.2 != 0 with
  | true => rfl
  | false =>
    simp only [Bool.false_eq_true, if_false]
    have g : GoodM m := chk_good.1 (by simpa using h)
    by_cases hl : l.length = m.Borders.length
    · rw [if_neg (by simp [hl]), if_pos hl]
      rw [e19L1 hk g (l := l) l [] m.Borders [] k 0 none rfl rfl rfl hl.symm rfl (by have := g.b1; omega) rfl (fun q h => by simp at h), Option.bind_some]
      cases legE m.Step none l m.Borders 0 <;> rfl
    · rw [if_pos (by simp; omega), if_neg hl]
theorem e20 {k : Nat} (hk : 20 ≤ k) {m : Mp} {l : List Int} : F20 k m l = some (chkLeg m l) := by
  unfold F20 chkLeg
  rw [e18 hk, Option.bind_some]
  cases h : (chk m).2.2 != 0 with
  | true =>
    have h2 : ((chk m).2.2 == 0) = false := by simpa using h
    simp only [h2, cond_false, Bool.false_eq_true, if_false, Option.bind_some, outK_inr, h, if_true]
  | false =>
    have h0 : (chk m).2.2 = 0 := by simpa using h
    have g : GoodM m := chk_good.1 h0
    simp only [h0, beq_self_eq_true, cond_true, Bool.false_eq_true, if_false]
    by_cases hl : l.length = m.Borders.length
    · have h1 : ((l.length : Int) != (m.Borders.length : Int)) = false := by simp [hl]
      simp only [h1, Bool.false_eq_true, if_false, Option.bind_some, outK_inr, bne_self_eq_false, if_pos hl]
      rw [e20L1 hk g (l := l) l [] m.Borders [] k 0 none rfl rfl rfl hl.symm rfl (by have := g.b1; omega) rfl (fun q h => by simp at h), Option.bind_some]
      cases legE m.Step none l m.Borders 0 <;> rfl
    · have h1 : ((l.length : Int) != (m.Borders.length : Int)) = true := by simp; omega
      simp only [h1, if_true, Option.bind_some, outK_inr, if_neg hl]
      rfl
end Go.Proofs.Ytpkhbbboedoldaa
