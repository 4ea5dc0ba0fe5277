/- What Best comes to, in plain words. -/
import Derived.Test.YtadejgckgnbaoaaPE
namespace Go.Proofs.Ytadejgckgnbaoaa
open Go Go.Sx
set_option linter.all false

theorem drop_bang {α : Type} [Inhabited α] {l : List α} {i : Nat} (h : i < l.length) : l.drop i = l[i]! :: l.drop (i + 1) := by
  rw [List.drop_eq_getElem_cons h, getElem!_pos l i h]
theorem far_adj (S : Int) (i : Nat) : far S i (i + 1) = S := by
  have := far_pred S i (i + 1) (by omega)
  rw [far_self] at this; omega
theorem Bnd.lip {S : Int} {ps : List P} {l : List Sp} (h : Bnd S ps l) (h0 : 0 ≤ S) {i j : Nat} (hi : i < ps.length) (hj : j < ps.length) : l[j]!.Lo ≤ l[i]!.Lo + far S i j ∧ l[i]!.Hi ≤ l[j]!.Hi + far S i j := by
  obtain ⟨k, h1, h2⟩ := (h.lo j hj).is
  have h3 := (h.lo i hi).ub k h1
  obtain ⟨m, h4, h5⟩ := (h.hi j hj).is
  have h6 := (h.hi i hi).ub m h4
  have := far_tri h0 i j k
  have := far_tri h0 i j m
  omega
theorem Bnd.own {S : Int} {ps : List P} {l : List Sp} (h : Bnd S ps l) {i : Nat} (hi : i < ps.length) : ps[i]!.Lo ≤ l[i]!.Lo ∧ l[i]!.Hi ≤ ps[i]!.Hi := by
  have h1 := (h.lo i hi).ub i hi
  have h2 := (h.hi i hi).ub i hi
  simp only [far_self] at h1 h2
  omega
theorem Bnd.ne {S : Int} {ps : List P} {l : List Sp} (h : Bnd S ps l) (h0 : 0 ≤ S) (hs : Some' S ps) {i : Nat} (hi : i < ps.length) : l[i]!.Lo ≤ l[i]!.Hi := by
  obtain ⟨k, h1, h2⟩ := (h.lo i hi).is
  obtain ⟨m, h4, h5⟩ := (h.hi i hi).is
  have := hs k m h1 h4
  have := far_tri h0 k i m
  have := far_symm S k i
  omega
theorem fit_ext {S : Int} {ps : List P} {l : List Sp} (h : Bnd S ps l) (h0 : 0 ≤ S) (hs : Some' S ps) : ∀ (m i : Nat) (x : Int), i + 1 + m = ps.length → l[i]!.Lo ≤ x → x ≤ l[i]!.Hi → ∃ s, Fit S (ps.drop (i + 1)) (x - S) (x + S) s := by
  intro m
  induction m with
  | zero =>
    intro i x hi h1 h2
    rw [List.drop_of_length_le (by omega)]
    exact ⟨[], rfl⟩
  | succ m ih =>
    intro i x hi h1 h2
    rw [drop_bang (by omega)]
    have a := h.lip h0 (i := i) (j := i + 1) (by omega) (by omega)
    rw [far_adj] at a
    have b := h.own (i := i + 1) (by omega)
    have c := h.ne h0 hs (i := i + 1) (by omega)
    obtain ⟨t, ht⟩ := ih (i + 1) (max (x - S) l[i + 1]!.Lo) (by omega) (by omega) (by omega)
    exact ⟨_, _, t, rfl, by omega, by omega, by omega, by omega, ht⟩
theorem fit_in {S : Int} (h0 : 0 ≤ S) {ps : List P} : ∀ (m i : Nat) (x : Int) (s : List Int), i + 1 + m = ps.length → Fit S (ps.drop (i + 1)) (x - S) (x + S) s → ∀ k, i < k → k < ps.length → ps[k]!.Lo - far S i k ≤ x ∧ x ≤ ps[k]!.Hi + far S i k := by
  intro m
  induction m with
  | zero => intro i x s hi _ k h1 h2; omega
  | succ m ih =>
    intro i x s hi hf k h1 h2
    rw [drop_bang (by omega)] at hf
    obtain ⟨y, t, rfl, g1, g2, g3, g4, g5⟩ := hf
    have e := far_pred S i k h1
    by_cases hk : k = i + 1
    · subst hk
      rw [far_self] at e
      omega
    · have := ih (i + 1) y t (by omega) g5 k (by omega) h2
      omega

section
variable {S : Int} {w : Bool} {ps : List P} {l : List Sp}
/-- The best behind a point at a height. -/
def beh (S : Int) (w : Bool) (ps : List P) (i : Nat) (h : Int) : Option Y := opt S w (ps.drop (i + 1)) (pos (ps[i]!.Board - h)) (h - S) (h + S)
/-- Heights from lo to hi have room for those before. -/
def Before (S : Int) (ps : List P) (i : Nat) (lo hi : Int) : Prop := ∀ x, lo ≤ x → x ≤ hi → ∀ k, k < i → ps[k]!.Lo - far S i k ≤ x ∧ x ≤ ps[k]!.Hi + far S i k
theorem opt_cut (h : Bnd S ps l) (h0 : 0 ≤ S) {i : Nat} (hi : i < ps.length) {deep lo hi' : Int} (hb : Before S ps i lo hi') :
    opt S w (ps.drop i) deep lo hi' = bestOf w ((up l[i]!.Lo (l[i]!.Hi - l[i]!.Lo + 1).toNat).filterMap (cand ps[i]! deep lo hi' (beh S w ps i))) := by
  rw [drop_bang hi, opt]
  have b := h.own hi
  refine congrArg (bestOf w) (up_cut b.1 b.2 fun x h1 h2 h3 => ?_)
  rw [cand]
  by_cases hc : lo ≤ x ∧ x ≤ hi'
  · rw [if_pos hc, Option.map_eq_none_iff, opt_none]
    intro s hs
    have key : ∀ k, k < ps.length → ps[k]!.Lo - far S i k ≤ x ∧ x ≤ ps[k]!.Hi + far S i k := by
      intro k hk
      rcases Nat.lt_trichotomy k i with e | e | e
      · exact hb x hc.1 hc.2 k e
      · subst e; rw [far_self]; omega
      · exact fit_in h0 (ps.length - (i + 1)) i x s (by omega) hs k e hk
    obtain ⟨k, k1, k2⟩ := (h.lo i hi).is
    obtain ⟨m, m1, m2⟩ := (h.hi i hi).is
    have := key k k1
    have := key m m1
    omega
  · rw [if_neg hc]
theorem before_next (h : Bnd S ps l) (h0 : 0 ≤ S) {i : Nat} (hi : i + 1 < ps.length) {x : Int} (h1 : l[i]!.Lo ≤ x) (h2 : x ≤ l[i]!.Hi) : Before S ps (i + 1) (x - S) (x + S) := by
  intro y hy hy' k hk
  have e := far_succ S i k (by omega)
  have a := (h.lo i (by omega)).ub k (by omega)
  have b := (h.hi i (by omega)).ub k (by omega)
  omega
theorem meets_next (h : Bnd S ps l) (h0 : 0 ≤ S) (hs : Some' S ps) {i : Nat} (hi : i + 1 < ps.length) {x : Int} (h1 : l[i]!.Lo ≤ x) (h2 : x ≤ l[i]!.Hi) : ∃ y, l[i + 1]!.Lo ≤ y ∧ y ≤ l[i + 1]!.Hi ∧ x - S ≤ y ∧ y ≤ x + S := by
  have a := h.lip h0 (i := i) (j := i + 1) (by omega) (by omega)
  rw [far_adj] at a
  have c := h.ne h0 hs (i := i + 1) (by omega)
  exact ⟨max (x - S) l[i + 1]!.Lo, by omega, by omega, by omega, by omega⟩

theorem e82 (x y : Int) : F82 x y = some (if x < y then -1 else if x > y then 1 else 0) := by
  unfold F82 F83
  simp only [bne_self_eq_false, Option.bind_some, Bool.false_eq_true, if_false, decide_eq_true_eq]
  split
  · rfl
  · split <;> rfl
theorem e66 {k : Nat} (hk : 20 ≤ k) (a b : S_carve_needs) : ∃ v, F66 k a b = some v ∧ decide (v < 0) = better false (a.e0, a.e1) (b.e0, b.e1) := by
  obtain ⟨k, rfl⟩ : ∃ j, k = j + 3 := ⟨k - 3, by omega⟩
  unfold F66 F78
  have i1 : ∀ x y : Int, idx [x, y] 0 = some x := fun x y => rfl
  have i2 : ∀ x y : Int, idx [x, y] 1 = some y := fun x y => rfl
  have w1 : w64 (0 + 1) = 1 := rfl
  have w2 : w64 (1 + 1) = 2 := rfl
  rw [F78L1, if_pos (by simp), i1, Option.bind_some, if_neg (by simp), i1, Option.bind_some, e82, Option.bind_some]
  by_cases h1 : a.e0 < b.e0
  · rw [if_pos h1]; exact ⟨-1, rfl, by simp [better, h1]⟩
  · rw [if_neg h1]
    by_cases h2 : a.e0 > b.e0
    · rw [if_pos h2]; refine ⟨1, rfl, ?_⟩
      have : ¬ a.e0 = b.e0 := by omega
      simp [better, h1, this]
    · rw [if_neg h2, w1, if_neg (by decide), F78L1, if_pos (by simp), i2, Option.bind_some, if_neg (by simp), i2, Option.bind_some, e82, Option.bind_some]
      have e : a.e0 = b.e0 := by omega
      by_cases h3 : a.e1 < b.e1
      · rw [if_pos h3]; exact ⟨-1, rfl, by simp [better, h3, e]⟩
      · rw [if_neg h3]
        by_cases h4 : a.e1 > b.e1
        · rw [if_pos h4]; exact ⟨1, rfl, by simp [better, h3, e]⟩
        · rw [if_neg h4, w2, if_neg (by decide), F78L1, if_neg (by simp)]
          exact ⟨0, rfl, by simp [better, h3, e]⟩
theorem e67 {k : Nat} (hk : 20 ≤ k) (a b : S_carve_needs) : ∃ v, F67 k a b = some v ∧ decide (v < 0) = better true (a.e0, a.e1) (b.e0, b.e1) := by
  obtain ⟨v, h1, h2⟩ := e66 hk ⟨a.e1, a.e0⟩ ⟨b.e1, b.e0⟩
  unfold F67
  rw [h1]
  exact ⟨v, rfl, h2⟩

theorem eqk_iff {a b : S_carve_state} : eqk95 a b = true ↔ a = b := by
  cases a; cases b; simp [eqk95]
theorem mget_mset (k k' : S_carve_state) (v : S_carve_rest) : ∀ m, mget eqk95 k (mset eqk95 k' v m) = if eqk95 k k' = true then some v else mget eqk95 k m := by
  intro m
  induction m with
  | nil => rfl
  | cons q qs ih =>
    obtain ⟨q1, q2⟩ := q
    show mget eqk95 k (if eqk95 k' q1 = true then (k', v) :: qs else (q1, q2) :: mset eqk95 k' v qs) = if eqk95 k k' = true then some v else if eqk95 k q1 = true then some q2 else mget eqk95 k qs
    by_cases h : eqk95 k' q1 = true
    · rw [if_pos h]
      have e := eqk_iff.1 h
      subst e
      show (if eqk95 k k' = true then some v else mget eqk95 k qs) = _
      by_cases h2 : eqk95 k k' = true
      · rw [if_pos h2, if_pos h2]
      · rw [if_neg h2, if_neg h2, if_neg h2]
    · rw [if_neg h]
      show (if eqk95 k q1 = true then some q2 else mget eqk95 k (mset eqk95 k' v qs)) = _
      rw [ih]
      by_cases h2 : eqk95 k q1 = true
      · have e := eqk_iff.1 h2
        subst e
        rw [if_pos h2, if_pos h2, if_neg]
        intro h3
        exact h (by rw [eqk_iff.1 h3]; exact eqk_iff.2 rfl)
      · rw [if_neg h2, if_neg h2]

abbrev M := List (S_carve_state × S_carve_rest)
/-- What is known is right. -/
def MapOk (S : Int) (w : Bool) (ps : List P) (m : M) : Prop := ∀ (i : Nat) (h : Int) (r : S_carve_rest), mget eqk95 ⟨i, h⟩ m = some r → i + 1 < ps.length → ∃ q, beh S w ps i h = some q ∧ (r.needs.e0, r.needs.e1) = q.1 ∧ q.2.head? = some r.next
/-- What lowest does at a point. -/
def RecOk (S : Int) (w : Bool) (ps : List P) (l : List Sp) (rec : Int → Int → S_api_Span → (List S_api_Span) → Int → (List S_api_CvPoint) → M → Bool → Option (S_carve_rest × M)) (i : Nat) : Prop :=
  ∀ (deep lo hi : Int) (m : M), 0 ≤ deep → deep ≤ 9000 → Before S ps i lo hi → (∃ y, l[i]!.Lo ≤ y ∧ y ≤ l[i]!.Hi ∧ lo ≤ y ∧ y ≤ hi) → MapOk S w ps m →
    ∃ r m' q, rec i deep ⟨lo, hi⟩ l S ps m w = some (r, m') ∧ MapOk S w ps m' ∧ opt S w (ps.drop i) deep lo hi = some q ∧ (r.needs.e0, r.needs.e1) = q.1 ∧ q.2.head? = some r.next

/-- A row that has a good surface. -/
structure Ctx (S : Int) (ps : List P) (l : List Sp) : Prop where
  s0 : 0 ≤ S
  s1 : S ≤ 200
  n0 : 1 ≤ ps.length
  n1 : ps.length ≤ 10
  pt : ∀ p ∈ ps, (0 ≤ p.Board ∧ p.Board ≤ 9000) ∧ (0 ≤ p.Lo ∧ p.Lo ≤ 9000) ∧ (0 ≤ p.Hi ∧ p.Hi ≤ 9000) ∧ p.Lo ≤ p.Hi ∧ p.Hi ≤ p.Lo + 30
  bnd : Bnd S ps l
  sm : Some' S ps
theorem Ctx.at {i : Nat} (c : Ctx S ps l) (hi : i < ps.length) : (0 ≤ ps[i]!.Board ∧ ps[i]!.Board ≤ 9000) ∧ (0 ≤ ps[i]!.Lo ∧ ps[i]!.Lo ≤ 9000) ∧ (0 ≤ ps[i]!.Hi ∧ ps[i]!.Hi ≤ 9000) ∧ ps[i]!.Lo ≤ ps[i]!.Hi ∧ ps[i]!.Hi ≤ ps[i]!.Lo + 30 := by
  refine c.pt _ ?_
  rw [getElem!_pos ps i hi]; exact List.getElem_mem _
theorem Ctx.room (c : Ctx S ps l) (i : Nat) {deep lo hi : Int} (hd : 0 ≤ deep) {q : Y} (h : opt S w (ps.drop i) deep lo hi = some q) : (0 ≤ q.1.1 ∧ q.1.1 ≤ 90000) ∧ 0 ≤ q.1.2 ∧ q.1.2 ≤ 90000 := by
  obtain ⟨h1, h2, _⟩ := opt_some _ _ _ _ _ h
  have := cost_room _ deep lo hi q.2 ⟨fun p hp => c.pt p (List.mem_of_mem_drop hp)⟩ hd h1
  rw [← h2, List.length_drop] at this
  have := c.n1
  omega

theorem e68 (c : Ctx S ps l) {rec : Int → Int → S_api_Span → (List S_api_Span) → Int → (List S_api_CvPoint) → M → Bool → Option (S_carve_rest × M)} {i : Nat} (hi : i < ps.length)
    (hr : i + 1 < ps.length → RecOk S w ps l rec (i + 1)) {h : Int} (h1 : l[i]!.Lo ≤ h) (h2 : h ≤ l[i]!.Hi) {m : M} (hm : MapOk S w ps m) :
    ∃ r m' q, F68 rec ⟨i, h⟩ S ps m l w = some (r, m') ∧ MapOk S w ps m' ∧ beh S w ps i h = some q ∧ (r.needs.e0, r.needs.e1) = q.1 ∧ (i + 1 < ps.length → q.2.head? = some r.next) := by
  have hL := c.n1
  have hp := c.at hi
  have ho := c.bnd.own hi
  have hS := c.s0
  have hS1 := c.s1
  unfold F68
  have e : w64 ((ps.length : Int) - 1) = ((ps.length - 1 : Nat) : Int) := by rw [w64_id (by omega) (by omega)]; omega
  rw [e]
  by_cases hl : i + 1 < ps.length
  · rw [if_neg (by simp; omega)]
    cases hg : mget eqk95 ⟨i, h⟩ m with
    | none =>
      rw [if_pos (by simp), idx_nat hi, Option.bind_some]
      have e1 : w64 ((i : Int) + 1) = ((i + 1 : Nat) : Int) := w64_nat (by omega)
      rw [e1]
      simp only
      rw [w64_id (n := ps[i]!.Board - h) (by omega) (by omega), w64_id (n := h - S) (by omega) (by omega), w64_id (n := h + S) (by omega) (by omega)]
      obtain ⟨r, m', q, g1, g2, g3, g4, g5⟩ := hr hl (pos (ps[i]!.Board - h)) (h - S) (h + S) m (pos_nonneg _) (pos_le (by omega) (by omega)) (before_next c.bnd hS hl h1 h2) (meets_next c.bnd hS c.sm hl h1 h2) hm
      rw [pos] at g1
      rw [g1, Option.bind_some]
      refine ⟨_, _, q, rfl, ?_, g3, g4, fun _ => g5⟩
      intro j x r' hj hj'
      rw [mget_mset] at hj
      by_cases ej : eqk95 ⟨j, x⟩ ⟨i, h⟩ = true
      · rw [if_pos ej] at hj
        have ej := eqk_iff.1 ej
        simp only [S_carve_state.mk.injEq] at ej
        have : j = i := by omega
        obtain rfl := Option.some.inj hj
        rw [this, ej.2]
        exact ⟨q, g3, g4, g5⟩
      · rw [if_neg ej] at hj
        exact g2 j x r' hj hj'
    | some r =>
      obtain ⟨q, g1, g2, g3⟩ := hm i h r hg hl
      rw [if_neg (by simp)]
      exact ⟨r, m, q, rfl, hm, g1, g2, fun _ => g3⟩
  · have : ps.length - 1 = i := by omega
    rw [this, if_pos (by simp)]
    refine ⟨_, m, ((0, 0), []), rfl, hm, ?_, rfl, fun h => absurd h hl⟩
    rw [beh, List.drop_of_length_le (by omega)]; rfl

theorem e64 (c : Ctx S ps l) {rec : Int → Int → S_api_Span → (List S_api_Span) → Int → (List S_api_CvPoint) → M → Bool → Option (S_carve_rest × M)} {i : Nat} (hi : i < ps.length)
    (hr : i + 1 < ps.length → RecOk S w ps l rec (i + 1)) {h : Int} (h1 : l[i]!.Lo ≤ h) (h2 : h ≤ l[i]!.Hi) {m : M} (hm : MapOk S w ps m) {deep : Int} (hd : 0 ≤ deep) (hd' : deep ≤ 9000) :
    ∃ n m' q, F64 rec ⟨i, h⟩ deep S ps m l w = some (n, m') ∧ MapOk S w ps m' ∧ beh S w ps i h = some q ∧ (n.e0, n.e1) = cst ps[i]! deep h q.1 := by
  have hL := c.n1
  have hp := c.at hi
  have ho := c.bnd.own hi
  obtain ⟨r, m', q, g1, g2, g3, g4, g5⟩ := e68 (w := w) c hi hr h1 h2 hm
  have hq := c.room (i + 1) (pos_nonneg (ps[i]!.Board - h)) g3
  have a1 := pos_nonneg (h - ps[i]!.Board)
  have a2 := pos_le (n := h - ps[i]!.Board) (m := 9000) (by omega) (by omega)
  have b0 := pos_nonneg (ps[i]!.Board - h)
  have b1 := pos_le (n := ps[i]!.Board - h) (m := 9000) (by omega) (by omega)
  have c0 := pos_nonneg (pos (ps[i]!.Board - h) - deep)
  have c1 := pos_le (n := pos (ps[i]!.Board - h) - deep) (m := 9000) (by omega) (by omega)
  have q1 : r.needs.e0 = q.1.1 := by rw [← g4]
  have q2 : r.needs.e1 = q.1.2 := by rw [← g4]
  unfold F64
  rw [g1, Option.bind_some, idx_nat hi, Option.bind_some]
  refine ⟨_, m', q, rfl, g2, g3, ?_⟩
  simp only
  rw [w64_id (n := h - ps[i]!.Board) (by omega) (by omega), w64_id (n := ps[i]!.Board - h) (by omega) (by omega)]
  change (w64 (r.needs.e0 + pos (h - ps[i]!.Board)), w64 (r.needs.e1 + if w64 (pos (ps[i]!.Board - h) - deep) > 0 then w64 (pos (ps[i]!.Board - h) - deep) else 0)) = _
  rw [w64_id (n := pos (ps[i]!.Board - h) - deep) (by omega) (by omega)]
  change (w64 (r.needs.e0 + pos (h - ps[i]!.Board)), w64 (r.needs.e1 + pos (pos (ps[i]!.Board - h) - deep))) = _
  rw [w64_id (by omega) (by omega), w64_id (by omega) (by omega), q1, q2]
  rfl

/-- What lowest has found so far. -/
def Rep (best : Option Y) (found : Bool) (e0 e1 next : Int) : Prop :=
  match best with
  | none => found = false
  | some y => found = true ∧ y.1 = (e0, e1) ∧ y.2.head? = some next
theorem out1 {k : Nat} (hk : 20 ≤ k) (lo hi x : Int) : F49 k lo hi [x] = some (!(decide (lo ≤ x) && decide (x ≤ hi))) := by
  rw [e49 (by simp; omega) (by simp)]
  congr 1
  rw [Bool.eq_iff_iff]
  simp only [List.any_cons, List.any_nil, Bool.or_false, Bool.or_eq_true, Bool.not_eq_true', Bool.and_eq_false_iff, decide_eq_true_eq, decide_eq_false_iff_not]
  omega
theorem e65L1 (c : Ctx S ps l) {k : Nat} (hk : 20 ≤ k) {rec : Int → Int → S_api_Span → (List S_api_Span) → Int → (List S_api_CvPoint) → M → Bool → Option (S_carve_rest × M)} {i : Nat} (hi : i < ps.length)
    (hr : i + 1 < ps.length → RecOk S w ps l rec (i + 1)) {deep lo hi' : Int} (hd : 0 ≤ deep) (hd' : deep ≤ 9000) : ∀ (a j n : Nat) (m : M) (best : Option Y) (found : Bool) (e0 e1 next : Int), a < n → (j : Int) + a = l[i]!.Hi - l[i]!.Lo + 1 → MapOk S w ps m → Rep best found e0 e1 next →
    ∃ m' found' e0' e1' next', F65L1 k rec i deep ⟨lo, hi'⟩ l S ps w l[i]! l[i]! n (found, j, m, e0, e1, next) = some (.inr (m', e0', e1', next')) ∧ MapOk S w ps m' ∧
      Rep (((up (l[i]!.Lo + j) a).filterMap (cand ps[i]! deep lo hi' (beh S w ps i))).foldl (pick w) best) found' e0' e1' next' := by
  have hlen := c.bnd.len
  have hp := c.at hi
  have ho := c.bnd.own hi
  intro a
  induction a with
  | zero =>
    intro j n m best found e0 e1 next hn hj hm hrep
    obtain ⟨n, rfl⟩ : ∃ j, n = j + 1 := ⟨n - 1, by omega⟩
    rw [F65L1]
    simp only
    rw [w64_id (n := l[i]!.Hi - l[i]!.Lo) (by omega) (by omega), w64_id (by omega) (by omega), if_neg (by simp only [decide_eq_true_eq]; omega)]
    exact ⟨m, found, e0, e1, next, rfl, hm, hrep⟩
  | succ a ih =>
    intro j n m best found e0 e1 next hn hj hm hrep
    obtain ⟨n, rfl⟩ : ∃ j, n = j + 1 := ⟨n - 1, by omega⟩
    rw [F65L1]
    simp only
    rw [w64_id (n := l[i]!.Hi - l[i]!.Lo) (by omega) (by omega), w64_id (n := l[i]!.Hi - l[i]!.Lo + 1) (by omega) (by omega), if_pos (by simp only [decide_eq_true_eq]; omega), idx_nat (by omega), Option.bind_some, w64_nat (by omega), w64_id (n := l[i]!.Lo + (j : Int)) (by omega) (by omega), out1 hk, Option.bind_some]
    have ejs : l[i]!.Lo + ((j + 1 : Nat) : Int) = l[i]!.Lo + j + 1 := by omega
    have next1 := fun m best found e0 e1 next => ih (j + 1) n m best found e0 e1 next (by omega) (by omega)
    rw [ejs] at next1
    rw [up, List.filterMap_cons]
    by_cases hc : lo ≤ l[i]!.Lo + j ∧ l[i]!.Lo + j ≤ hi'
    · have ec : (decide (lo ≤ l[i]!.Lo + (j : Int)) && decide (l[i]!.Lo + (j : Int) ≤ hi')) = true := by simpa using hc
      rw [ec]
      simp only [Bool.not_true, Bool.false_eq_true, if_false]
      obtain ⟨nd, m', q, g1, g2, g3, g4⟩ := e64 (w := w) c hi hr (h := l[i]!.Lo + j) (by omega) (by omega) hm hd hd'
      rw [g1, Option.bind_some]
      rw [cand, if_pos hc, g3]
      simp only [Option.map_some, List.foldl_cons]
      have key : ∀ (cmp : Option Int), (found = true → ∃ v, cmp = some v ∧ decide (v < 0) = better w (nd.e0, nd.e1) (e0, e1)) →
          ∃ m'' found' e0' e1' next', ((optG (!(!found)) cmp).bind fun x => if (cond (!found) true (decide (x < 0))) then F65L1 k rec i deep ⟨lo, hi'⟩ l S ps w l[i]! l[i]! n (true, ((j + 1 : Nat) : Int), m', nd.e0, nd.e1, l[i]!.Lo + j) else F65L1 k rec i deep ⟨lo, hi'⟩ l S ps w l[i]! l[i]! n (found, ((j + 1 : Nat) : Int), m', e0, e1, next)) = some (.inr (m'', e0', e1', next')) ∧ MapOk S w ps m'' ∧
            Rep (((up (l[i]!.Lo + j + 1) a).filterMap (cand ps[i]! deep lo hi' (beh S w ps i))).foldl (pick w) (pick w best (cst ps[i]! deep (l[i]!.Lo + j) q.1, (l[i]!.Lo + j) :: q.2))) found' e0' e1' next' := by
        intro cmp hcmp
        cases best with
        | none =>
          simp only [Rep] at hrep
          subst hrep
          simp only [Bool.not_false, Bool.not_true, optG_false, Option.bind_some, cond_true, if_true]
          exact next1 m' _ true nd.e0 nd.e1 _ g2 ⟨rfl, g4.symm, rfl⟩
        | some b =>
          obtain ⟨hr1, hr2, hr3⟩ := hrep
          subst hr1
          obtain ⟨v, hv, hv'⟩ := hcmp rfl
          simp only [Bool.not_false, Bool.not_true, optG_true, cond_false]
          rw [hv, Option.bind_some, hv', g4, ← hr2]
          simp only [pick]
          cases hb : better w (cst ps[i]! deep (l[i]!.Lo + j) q.1) b.1 with
          | true =>
            simp only [if_true]
            exact next1 m' _ true nd.e0 nd.e1 _ g2 ⟨rfl, g4.symm, rfl⟩
          | false =>
            simp only [Bool.false_eq_true, if_false]
            exact next1 m' _ true e0 e1 _ g2 ⟨rfl, hr2, hr3⟩
      cases w with
      | true =>
        rw [if_pos rfl]
        refine key _ fun _ => ?_
        obtain ⟨v, h1, h2⟩ := e67 hk ⟨nd.e0, nd.e1⟩ ⟨e0, e1⟩
        exact ⟨v, h1, h2⟩
      | false =>
        rw [if_neg (by simp)]
        refine key _ fun _ => ?_
        obtain ⟨v, h1, h2⟩ := e66 hk ⟨nd.e0, nd.e1⟩ ⟨e0, e1⟩
        exact ⟨v, h1, h2⟩
    · have ec : (decide (lo ≤ l[i]!.Lo + (j : Int)) && decide (l[i]!.Lo + (j : Int) ≤ hi')) = false := by
        cases hd : (decide (lo ≤ l[i]!.Lo + (j : Int)) && decide (l[i]!.Lo + (j : Int) ≤ hi')) with
        | false => rfl
        | true => exact absurd (by simpa using hd) hc
      rw [ec]
      simp only [Bool.not_false, if_true]
      have : cand ps[i]! deep lo hi' (beh S w ps i) (l[i]!.Lo + j) = none := by rw [cand, if_neg hc]
      rw [this]
      exact next1 m best found e0 e1 next hm hrep

theorem e65 (c : Ctx S ps l) : ∀ (d i n : Nat), i + d = ps.length → 0 < d → 40 + d ≤ n → RecOk S w ps l (F65 n) i := by
  intro d
  induction d with
  | zero => intro i n _ h; omega
  | succ d ih =>
    intro i n hi _ hn deep lo hi' m hd hd' hb hm hmap
    obtain ⟨n, rfl⟩ : ∃ j, n = j + 1 := ⟨n - 1, by omega⟩
    have hil : i < ps.length := by omega
    have hlen := c.bnd.len
    have hp := c.at hil
    have ho := c.bnd.own hil
    have hne := c.bnd.ne c.s0 c.sm hil
    rw [F65, B65, idx_nat (by omega), Option.bind_some, Option.bind_some]
    have hr : i + 1 < ps.length → RecOk S w ps l (F65 n) (i + 1) := fun h => ih (i + 1) n (by omega) (by omega) (by omega)
    obtain ⟨m', f, e0, e1, nx, g1, g2, g3⟩ := e65L1 (w := w) c (k := n + 1) (by omega) hil hr (lo := lo) (hi' := hi') hd hd' (l[i]!.Hi - l[i]!.Lo + 1).toNat 0 (n + 1) m none false 0 0 0 (by omega) (by omega) hmap rfl
    rw [show ((0 : Nat) : Int) = 0 from rfl] at g1 g3
    rw [g1, Option.bind_some, outK_inr, opt_cut c.bnd c.s0 hil hb]
    rw [Int.add_zero] at g3
    unfold bestOf
    cases ho : ((up l[i]!.Lo (l[i]!.Hi - l[i]!.Lo + 1).toNat).filterMap (cand ps[i]! deep lo hi' (beh S w ps i))).foldl (pick w) none with
    | none =>
      exfalso
      have h0 : opt S w (ps.drop i) deep lo hi' = none := by rw [opt_cut c.bnd c.s0 hil hb]; exact ho
      rw [opt_none] at h0
      obtain ⟨y, y1, y2, y3, y4⟩ := hm
      obtain ⟨t, ht⟩ := fit_ext c.bnd c.s0 c.sm (ps.length - (i + 1)) i y (by omega) y1 y2
      refine h0 (y :: t) ?_
      rw [drop_bang hil]
      exact ⟨y, t, rfl, by omega, by omega, y3, y4, ht⟩
    | some q =>
      rw [ho] at g3
      obtain ⟨_, h2, h3⟩ := g3
      exact ⟨_, m', q, rfl, g2, rfl, h2.symm, h3⟩

/-- The surface is followed. -/
theorem e36L1 (c : Ctx S ps l) {k : Nat} (hk : 55 ≤ k) {r : R} (hr : r = ⟨S, ps⟩) (b : Bool) (x5 : S_carve_rest × M) : ∀ (d i n : Nat) (x deep lo hi : Int) (m : M) (y : Y) (acc : List Int), i + d + 1 = ps.length → d < n → acc.length = i → MapOk S w ps m → l[i]!.Lo ≤ x → x ≤ l[i]!.Hi → y.2.head? = some x →
    opt S w (ps.drop i) deep lo hi = some y → F36L1 k r w (l, b) x5 n (m, i, x, acc) = some (.inl (acc ++ y.2, x5.1.needs.e0, x5.1.needs.e1, 0)) := by
  intro d
  induction d with
  | zero =>
    intro i n x deep lo hi m y acc hi' hn hacc hm h1 h2 h3 h4
    obtain ⟨n, rfl⟩ : ∃ j, n = j + 1 := ⟨n - 1, by omega⟩
    have hL := c.n1
    subst hr
    rw [F36L1]
    simp only
    have e : w64 ((ps.length : Int) - 1) = (i : Nat) := by rw [w64_id (by omega) (by omega)]; omega
    rw [need_true (by simp; omega), Option.bind_some, e, if_pos (by simp)]
    rw [drop_bang (by omega)] at h4
    obtain ⟨x', q, rfl, g1, _⟩ := opt_tail h4
    rw [List.drop_of_length_le (by omega)] at g1
    obtain rfl := Option.some.inj g1
    obtain rfl := Option.some.inj h3
    rfl
  | succ d ih =>
    intro i n x deep lo hi m y acc hi' hn hacc hm h1 h2 h3 h4
    obtain ⟨n, rfl⟩ : ∃ j, n = j + 1 := ⟨n - 1, by omega⟩
    have hL := c.n1
    subst hr
    rw [F36L1]
    simp only
    have e : w64 ((ps.length : Int) - 1) = ((ps.length - 1 : Nat) : Int) := by rw [w64_id (by omega) (by omega)]; omega
    rw [need_true (by simp; omega), Option.bind_some, e, if_neg (by simp; omega)]
    rw [drop_bang (by omega)] at h4
    obtain ⟨x', q, rfl, g1, _⟩ := opt_tail h4
    obtain rfl := Option.some.inj h3
    obtain ⟨rr, m', q', k1, k2, k3, k4, k5⟩ := e68 (w := w) c (i := i) (by omega) (fun h => e65 c (ps.length - (i + 1)) (i + 1) k (by omega) (by omega) (by omega)) h1 h2 hm
    have : q' = q := by
      unfold beh at k3
      rw [g1] at k3
      exact (Option.some.inj k3).symm
    subst this
    have k5 := k5 (by omega)
    rw [k1, Option.bind_some, w64_nat (by omega)]
    have hopt := g1
    rw [drop_bang (by omega)] at g1
    obtain ⟨z, q2, hq, g2, g3, g4, g5, g6⟩ := opt_tail g1
    have hz : rr.next = z := by rw [hq] at k5; exact (Option.some.inj k5).symm
    have hin : l[i + 1]!.Lo ≤ z ∧ z ≤ l[i + 1]!.Hi := by
      obtain ⟨f1, _⟩ := opt_some _ _ _ _ _ g2
      have hbef := before_next c.bnd c.s0 (i := i) (by omega) h1 h2
      have key : ∀ k, k < ps.length → ps[k]!.Lo - far S (i + 1) k ≤ z ∧ z ≤ ps[k]!.Hi + far S (i + 1) k := by
        intro k hk
        rcases Nat.lt_trichotomy k (i + 1) with e | e | e
        · exact hbef z g5 g6 k e
        · subst e; rw [far_self]; omega
        · exact fit_in c.s0 (ps.length - (i + 1 + 1)) (i + 1) z q2.2 (by omega) f1 k e hk
      obtain ⟨k, k1, k2⟩ := (c.bnd.lo (i + 1) (by omega)).is
      obtain ⟨m, m1, m2⟩ := (c.bnd.hi (i + 1) (by omega)).is
      have := key k k1
      have := key m m1
      omega
    rw [hz]
    have := ih (i + 1) n z _ _ _ m' q' (acc ++ [x']) (by omega) (by omega) (by simp [hacc]) k2 hin.1 hin.2 (by rw [hq]; rfl) hopt
    rw [this]
    simp

end
/-- What Best returns for a row. -/
structure ORes (r : R) (w : Bool) (res : List Int × Int × Int × Int) : Prop where
  bad : ¬ Good r → res = ([], 0, 0, (chk r).2.2)
  down : Good r → ¬ Some' r.Steep r.Points → res = ([], 0, 0, 9)
  ok : Good r → Some' r.Steep r.Points → ∃ y, opt r.Steep w r.Points 0 0 9000 = some y ∧ res = (y.2, y.1.1, y.1.2, 0)
theorem ORes.uniq {r : R} {w : Bool} {a b : List Int × Int × Int × Int} (ha : ORes r w a) (hb : ORes r w b) : a = b := by
  by_cases hg : Good r
  · by_cases hs : Some' r.Steep r.Points
    · obtain ⟨y, h1, h2⟩ := ha.ok hg hs
      obtain ⟨z, h3, h4⟩ := hb.ok hg hs
      rw [h1] at h3
      obtain rfl := Option.some.inj h3
      rw [h2, h4]
    · rw [ha.down hg hs, hb.down hg hs]
  · rw [ha.bad hg, hb.bad hg]
theorem Good.ctx {r : R} (h : Good r) (hs : Some' r.Steep r.Points) {l : List Sp} (hl : Bnd r.Steep r.Points l) : Ctx r.Steep r.Points l :=
  ⟨h.s0, h.s1, h.n0, h.n1, h.pt, hl, hs⟩
theorem e36 {k : Nat} (hk : 55 ≤ k) (r : R) (w : Bool) : ∃ res, F36 k r w = some res ∧ ORes r w res := by
  unfold F36
  rw [e16 (by omega), Option.bind_some]
  by_cases hg : Good r
  · rw [chk_good hg]
    simp only [bne_self_eq_false, Bool.false_eq_true, if_false]
    obtain ⟨l, b, h1, h2, h3⟩ := e51 (k := k) (by omega) hg.pts (by have := hg.n0; omega)
    have e : (⟨r⟩ : S_carve_row) = ⟨⟨r.Steep, r.Points⟩⟩ := rfl
    rw [e, h1, Option.bind_some]
    cases b with
    | false => exact ⟨_, rfl, fun h => absurd hg h, fun _ h => rfl, fun _ h => by have := h3.2 h; cases this⟩
    | true =>
      have hs := h3.1 rfl
      have c := hg.ctx hs h2.bnd
      have hn0 := hg.n0
      simp only [Bool.not_true, Bool.false_eq_true, if_false]
      have hne := c.bnd.ne c.s0 c.sm (i := 0) (by omega)
      have ho := c.bnd.own (i := 0) (by omega)
      have hp := c.at (i := 0) (by omega)
      obtain ⟨rr, m', q, g1, g2, g3, g4, g5⟩ := e65 (w := w) c r.Points.length 0 k (by omega) (by omega) (by have := hg.n1; omega) 0 0 9000 [] (by omega) (by omega) (fun x _ _ k hk => by omega) ⟨l[0]!.Lo, by omega, by omega, by omega, by omega⟩ (fun i h r hr => by cases hr)
      rw [show ((0 : Nat) : Int) = 0 from rfl] at g1
      rw [g1, Option.bind_some]
      have hq : l[0]!.Lo ≤ rr.next ∧ rr.next ≤ l[0]!.Hi := by
        rw [opt_cut c.bnd c.s0 (by omega) (fun x _ _ k hk => by omega)] at g3
        obtain ⟨k1, _⟩ := bestOf_some g3
        rw [List.mem_filterMap] at k1
        obtain ⟨x, hx, hc⟩ := k1
        rw [mem_up] at hx
        rw [cand] at hc
        split at hc
        · rw [Option.map_eq_some_iff] at hc
          obtain ⟨_, _, hqe⟩ := hc
          rw [← hqe] at g5
          have := Option.some.inj g5
          omega
        · cases hc
      have := e36L1 (w := w) c hk (r := r) rfl true (rr, m') (r.Points.length - 1) 0 k rr.next 0 0 9000 m' q [] (by omega) (by have := hg.n1; omega) rfl g2 hq.1 hq.2 g5 g3
      rw [show ((0 : Nat) : Int) = 0 from rfl] at this
      rw [this, Option.bind_some, outK_inl]
      rw [List.drop_zero] at g3
      have q1 : rr.needs.e0 = q.1.1 := by rw [← g4]
      have q2 : rr.needs.e1 = q.1.2 := by rw [← g4]
      exact ⟨_, rfl, fun h => absurd hg h, fun _ h => absurd hs h, fun _ _ => ⟨q, g3, by simp [q1, q2]⟩⟩
  · rw [if_pos (by simpa using chk_bad hg)]
    exact ⟨_, rfl, fun _ => rfl, fun h => absurd h hg, fun h => absurd h hg⟩
end Go.Proofs.Ytadejgckgnbaoaa
