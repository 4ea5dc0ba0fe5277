/- The best surfaces of a row, in plain words. -/
import Derived.Test.YtadejgckgnbaoaaPD
namespace Go.Proofs.Ytadejgckgnbaoaa
open Go Go.Sx
set_option linter.all false

/-- What comes first is less, or it is the same and the other one is less. -/
def better (w : Bool) (a b : Int × Int) : Bool := if w then decide (a.2 < b.2) || (a.2 == b.2 && decide (a.1 < b.1)) else decide (a.1 < b.1) || (a.1 == b.1 && decide (a.2 < b.2))
theorem better_irrefl (w : Bool) (a : Int × Int) : better w a a = false := by cases w <;> simp [better]
theorem better_trans {w : Bool} {a b c : Int × Int} (h : better w a b = true) (h' : better w b c = true) : better w a c = true := by
  cases w <;> simp only [better, Bool.false_eq_true, if_false, if_true, Bool.or_eq_true, Bool.and_eq_true, decide_eq_true_eq, beq_iff_eq] at * <;> omega
theorem better_total {w : Bool} {a b : Int × Int} (h : better w a b = false) (h' : better w b a = false) : a = b := by
  have : a.1 = b.1 ∧ a.2 = b.2 := by
    cases w <;> simp only [better, Bool.false_eq_true, if_false, if_true, Bool.or_eq_false_iff, Bool.and_eq_false_iff, decide_eq_false_iff_not, beq_eq_false_iff_ne, ne_eq] at * <;> omega
  exact Prod.ext this.1 this.2
theorem better_left {w : Bool} {a b c : Int × Int} (h : better w a b = true) (h' : better w c b = false) : better w a c = true := by
  cases w <;> simp only [better, Bool.false_eq_true, if_false, if_true, Bool.or_eq_true, Bool.and_eq_true, decide_eq_true_eq, beq_iff_eq, Bool.or_eq_false_iff, Bool.and_eq_false_iff, decide_eq_false_iff_not, beq_eq_false_iff_ne, ne_eq] at * <;> omega
theorem better_asym {w : Bool} {a b : Int × Int} (h : better w a b = true) : better w b a = false := by
  cases hb : better w b a with
  | false => rfl
  | true => rw [← better_irrefl w a, better_trans h hb]
theorem better_add {w : Bool} {a b : Int × Int} (x y : Int) : better w (a.1 + x, a.2 + y) (b.1 + x, b.2 + y) = better w a b := by
  rw [Bool.eq_iff_iff]
  cases w <;> simp only [better, Bool.false_eq_true, if_false, if_true, Bool.or_eq_true, Bool.and_eq_true, decide_eq_true_eq, beq_iff_eq] <;> omega

def pos (n : Int) : Int := if n > 0 then n else 0
theorem pos_nonneg (n : Int) : 0 ≤ pos n := by unfold pos; split <;> omega
theorem pos_le {n m : Int} (h : n ≤ m) (h' : 0 ≤ m) : pos n ≤ m := by unfold pos; split <;> omega
/-- What points need, one more in front. -/
def cst (p : P) (deep h : Int) (c : Int × Int) : Int × Int := (c.1 + pos (h - p.Board), c.2 + pos (pos (p.Board - h) - deep))
abbrev Y := (Int × Int) × List Int
def pick (w : Bool) (best : Option Y) (y : Y) : Option Y :=
  match best with
  | none => some y
  | some b => if better w y.1 b.1 then some y else some b
/-- The first best one. -/
def bestOf (w : Bool) (ys : List Y) : Option Y := ys.foldl (pick w) none
/-- Numbers from one on. -/
def up : Int → Nat → List Int
  | _, 0 => []
  | lo, n + 1 => lo :: up (lo + 1) n
def cand (p : P) (deep lo hi : Int) (sub : Int → Option Y) (h : Int) : Option Y :=
  if lo ≤ h ∧ h ≤ hi then (sub h).map fun q => (cst p deep h q.1, h :: q.2) else none
/-- The best heights of some points, behind a point that is carved so deep; the first one from lo to hi. -/
def opt (S : Int) (w : Bool) : List P → Int → Int → Int → Option Y
  | [] => fun _ _ _ => some ((0, 0), [])
  | p :: ps => fun deep lo hi => bestOf w ((up p.Lo (p.Hi - p.Lo + 1).toNat).filterMap (cand p deep lo hi fun h => opt S w ps (pos (p.Board - h)) (h - S) (h + S)))

theorem foldl_pick {w : Bool} : ∀ (ys : List Y) (b : Y), ∃ y, ys.foldl (pick w) (some b) = some y ∧ (y = b ∨ y ∈ ys) ∧ better w b.1 y.1 = false ∧ ∀ z ∈ ys, better w z.1 y.1 = false := by
  intro ys
  induction ys with
  | nil => intro b; exact ⟨b, rfl, .inl rfl, better_irrefl w _, fun z h => by cases h⟩
  | cons x ys ih =>
    intro b
    rw [List.foldl_cons]
    by_cases hx : better w x.1 b.1 = true
    · have e : pick w (some b) x = some x := by simp [pick, hx]
      rw [e]
      obtain ⟨y, h1, h2, h3, h4⟩ := ih x
      refine ⟨y, h1, .inr ?_, ?_, fun z hz => ?_⟩
      · rcases h2 with rfl | h2
        · simp
        · simp [h2]
      · cases hb : better w b.1 y.1 with
        | false => rfl
        | true => rw [better_trans hx hb] at h3; cases h3
      · rcases List.mem_cons.1 hz with rfl | hz
        · exact h3
        · exact h4 z hz
    · have e : pick w (some b) x = some b := by simp [pick, hx]
      rw [e]
      obtain ⟨y, h1, h2, h3, h4⟩ := ih b
      refine ⟨y, h1, ?_, h3, fun z hz => ?_⟩
      · rcases h2 with rfl | h2
        · exact .inl rfl
        · exact .inr (by simp [h2])
      · rcases List.mem_cons.1 hz with rfl | hz
        · cases hb : better w z.1 y.1 with
          | false => rfl
          | true =>
            have := better_left hb h3
            exact absurd this hx
        · exact h4 z hz
theorem bestOf_cons {w : Bool} (x : Y) (ys : List Y) : ∃ y, bestOf w (x :: ys) = some y ∧ y ∈ x :: ys ∧ ∀ z ∈ x :: ys, better w z.1 y.1 = false := by
  obtain ⟨y, h1, h2, h3, h4⟩ := foldl_pick (w := w) ys x
  refine ⟨y, h1, ?_, fun z hz => ?_⟩
  · rcases h2 with rfl | h2
    · simp
    · simp [h2]
  · rcases List.mem_cons.1 hz with rfl | hz
    · exact h3
    · exact h4 z hz
theorem bestOf_none {w : Bool} {ys : List Y} : bestOf w ys = none ↔ ys = [] := by
  cases ys with
  | nil => exact ⟨fun _ => rfl, fun _ => rfl⟩
  | cons x ys =>
    obtain ⟨y, h, _⟩ := bestOf_cons (w := w) x ys
    rw [h]; simp
theorem bestOf_some {w : Bool} {ys : List Y} {y : Y} (h : bestOf w ys = some y) : y ∈ ys ∧ ∀ z ∈ ys, better w z.1 y.1 = false := by
  cases ys with
  | nil => cases h
  | cons x ys =>
    obtain ⟨z, h1, h2⟩ := bestOf_cons (w := w) x ys
    rw [h1] at h; cases h; exact h2
theorem mem_up : ∀ (n : Nat) (lo x : Int), x ∈ up lo n ↔ lo ≤ x ∧ x < lo + n := by
  intro n
  induction n with
  | zero => intro lo x; simp [up] <;> omega
  | succ n ih => intro lo x; rw [up, List.mem_cons, ih]; omega
theorem up_add : ∀ (m n : Nat) (lo : Int), up lo (m + n) = up lo m ++ up (lo + m) n := by
  intro m
  induction m with
  | zero => intro n lo; simp [up]
  | succ m ih =>
    intro n lo
    rw [show m + 1 + n = (m + n) + 1 by omega, up, up, ih, List.cons_append]
    congr 3; omega
theorem filterMap_none {α β : Type} {f : α → Option β} : ∀ {l : List α}, (∀ x ∈ l, f x = none) → l.filterMap f = [] := by
  intro l h
  rw [List.filterMap_eq_nil_iff]; exact h
/-- Where none is outside, the rest is enough. -/
theorem up_cut {f : Int → Option Y} {a b lo hi : Int} (h1 : lo ≤ a) (h2 : b ≤ hi) (h : ∀ x, lo ≤ x → x ≤ hi → x < a ∨ b < x → f x = none) : (up lo (hi - lo + 1).toNat).filterMap f = (up a (b - a + 1).toNat).filterMap f := by
  by_cases hab : a ≤ b
  · have e : (hi - lo + 1).toNat = (a - lo).toNat + ((b - a + 1).toNat + (hi - b).toNat) := by omega
    rw [e, up_add, up_add, List.filterMap_append, List.filterMap_append, filterMap_none (l := up lo _), filterMap_none (l := up _ (hi - b).toNat)]
    · rw [show lo + ((a - lo).toNat : Int) = a by omega]; simp
    · intro x hx
      rw [mem_up] at hx
      exact h x (by omega) (by omega) (by omega)
    · intro x hx
      rw [mem_up] at hx
      exact h x (by omega) (by omega) (by omega)
  · rw [show (b - a + 1).toNat = 0 by omega, filterMap_none]
    · rfl
    · intro x hx
      rw [mem_up] at hx
      exact h x (by omega) (by omega) (by omega)

/-- Heights that points may have, one behind the other. -/
def Fit (S : Int) : List P → Int → Int → List Int → Prop
  | [], _, _, s => s = []
  | p :: ps, lo, hi, s => ∃ h t, s = h :: t ∧ p.Lo ≤ h ∧ h ≤ p.Hi ∧ lo ≤ h ∧ h ≤ hi ∧ Fit S ps (h - S) (h + S) t
/-- What they need. -/
def cost : List P → Int → List Int → Int × Int
  | p :: ps, deep, h :: t => cst p deep h (cost ps (pos (p.Board - h)) t)
  | _, _, _ => (0, 0)
theorem better_cst {w : Bool} {p : P} {deep h : Int} {a b : Int × Int} : better w (cst p deep h a) (cst p deep h b) = better w a b := better_add _ _
theorem opt_none {S : Int} {w : Bool} : ∀ (ps : List P) (deep lo hi : Int), opt S w ps deep lo hi = none ↔ ∀ s, ¬ Fit S ps lo hi s := by
  intro ps
  induction ps with
  | nil => intro deep lo hi; simp [opt, Fit]
  | cons p ps ih =>
    intro deep lo hi
    rw [opt, bestOf_none, List.filterMap_eq_nil_iff]
    constructor
    · rintro h s ⟨x, t, rfl, h1, h2, h3, h4, h5⟩
      have := h x (by rw [mem_up]; omega)
      rw [cand, if_pos ⟨h3, h4⟩, Option.map_eq_none_iff] at this
      exact (ih _ _ _).1 this t h5
    · intro h x hx
      rw [mem_up] at hx
      rw [cand]
      by_cases hc : lo ≤ x ∧ x ≤ hi
      · rw [if_pos hc, Option.map_eq_none_iff, ih]
        intro t ht
        exact h (x :: t) ⟨x, t, rfl, by omega, by omega, hc.1, hc.2, ht⟩
      · rw [if_neg hc]
theorem opt_some {S : Int} {w : Bool} : ∀ (ps : List P) (deep lo hi : Int) (y : Y), opt S w ps deep lo hi = some y → Fit S ps lo hi y.2 ∧ y.1 = cost ps deep y.2 ∧ ∀ s, Fit S ps lo hi s → better w (cost ps deep s) y.1 = false := by
  intro ps
  induction ps with
  | nil => intro deep lo hi y h; cases h; exact ⟨rfl, rfl, fun s h => by cases h; exact better_irrefl w _⟩
  | cons p ps ih =>
    intro deep lo hi y h
    rw [opt] at h
    obtain ⟨h1, h2⟩ := bestOf_some h
    rw [List.mem_filterMap] at h1
    obtain ⟨x, hx, hc⟩ := h1
    rw [mem_up] at hx
    rw [cand] at hc
    by_cases hr : lo ≤ x ∧ x ≤ hi
    · rw [if_pos hr, Option.map_eq_some_iff] at hc
      obtain ⟨q, hq, rfl⟩ := hc
      obtain ⟨g1, g2, g3⟩ := ih _ _ _ q hq
      refine ⟨⟨x, q.2, rfl, by omega, by omega, hr.1, hr.2, g1⟩, by rw [cost, g2], ?_⟩
      rintro s ⟨z, t, rfl, k1, k2, k3, k4, k5⟩
      rw [cost]
      cases ho : opt S w ps (pos (p.Board - z)) (z - S) (z + S) with
      | none => exact absurd k5 ((opt_none ps _ _ _).1 ho t)
      | some r =>
        have hb := h2 (cst p deep z r.1, z :: r.2) (by
          rw [List.mem_filterMap]
          exact ⟨z, by rw [mem_up]; omega, by rw [cand, if_pos ⟨k3, k4⟩, ho]; rfl⟩)
        have := (ih _ _ _ r ho).2.2 t k5
        cases hbb : better w (cst p deep z (cost ps (pos (p.Board - z)) t)) (cst p deep x q.1) with
        | false => rfl
        | true =>
          simp only at hb
          have h3 : better w (cst p deep z (cost ps (pos (p.Board - z)) t)) (cst p deep z r.1) = true := better_left hbb hb
          rw [better_cst, this] at h3
          cases h3
    · rw [if_neg hr] at hc; cases hc
/-- Behind the first height, the rest is the best of the rest. -/
theorem opt_tail {S : Int} {w : Bool} {p : P} {ps : List P} {deep lo hi : Int} {y : Y} (h : opt S w (p :: ps) deep lo hi = some y) : ∃ x q, y = (cst p deep x q.1, x :: q.2) ∧ opt S w ps (pos (p.Board - x)) (x - S) (x + S) = some q ∧ p.Lo ≤ x ∧ x ≤ p.Hi ∧ lo ≤ x ∧ x ≤ hi := by
  rw [opt] at h
  obtain ⟨h1, h2⟩ := bestOf_some h
  rw [List.mem_filterMap] at h1
  obtain ⟨x, hx, hc⟩ := h1
  rw [mem_up] at hx
  rw [cand] at hc
  by_cases hr : lo ≤ x ∧ x ≤ hi
  · rw [if_pos hr, Option.map_eq_some_iff] at hc
    obtain ⟨q, hq, rfl⟩ := hc
    exact ⟨x, q, rfl, hq, by omega, by omega, hr.1, hr.2⟩
  · rw [if_neg hr] at hc; cases hc

/-- Points with a Board, too. -/
structure Pt9 (ps : List P) : Prop where
  pt : ∀ p ∈ ps, (0 ≤ p.Board ∧ p.Board ≤ 9000) ∧ (0 ≤ p.Lo ∧ p.Lo ≤ 9000) ∧ (0 ≤ p.Hi ∧ p.Hi ≤ 9000) ∧ p.Lo ≤ p.Hi ∧ p.Hi ≤ p.Lo + 30
theorem Pt9.tail {p : P} {ps : List P} (h : Pt9 (p :: ps)) : Pt9 ps := ⟨fun q hq => h.pt q (by simp [hq])⟩
theorem cost_room {S : Int} : ∀ (ps : List P) (deep lo hi : Int) (s : List Int), Pt9 ps → 0 ≤ deep → Fit S ps lo hi s → (0 ≤ (cost ps deep s).1 ∧ (cost ps deep s).1 ≤ 9000 * ps.length) ∧ 0 ≤ (cost ps deep s).2 ∧ (cost ps deep s).2 ≤ 9000 * ps.length := by
  intro ps
  induction ps with
  | nil => intro deep lo hi s _ _ h; cases h; simp [cost]
  | cons p ps ih =>
    rintro deep lo hi s h9 hd ⟨x, t, rfl, h1, h2, h3, h4, h5⟩
    have := ih (pos (p.Board - x)) _ _ t h9.tail (pos_nonneg _) h5
    have hp := h9.pt p (by simp)
    have a1 := pos_nonneg (x - p.Board)
    have a2 := pos_le (n := x - p.Board) (m := 9000) (by omega) (by omega)
    have b0 := pos_le (n := p.Board - x) (m := 9000) (by omega) (by omega)
    have b1 := pos_nonneg (pos (p.Board - x) - deep)
    have b2 := pos_le (n := pos (p.Board - x) - deep) (m := 9000) (by omega) (by omega)
    rw [cost, cst]
    simp only [List.length_cons]
    omega
theorem fit_len {S : Int} : ∀ (ps : List P) (lo hi : Int) (s : List Int), Fit S ps lo hi s → s.length = ps.length := by
  intro ps
  induction ps with
  | nil => intro lo hi s h; cases h; rfl
  | cons p ps ih => rintro lo hi s ⟨x, t, rfl, _, _, _, _, h⟩; simp [ih _ _ _ h]
end Go.Proofs.Ytadejgckgnbaoaa
