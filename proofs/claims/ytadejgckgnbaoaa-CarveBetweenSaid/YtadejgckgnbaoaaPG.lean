/- What the reference's Best comes to, in plain words; and the statement CarveBest in plain words. -/
import Derived.Test.YtadejgckgnbaoaaPF
import Derived.Test.YtadejgckgnbaoaaDE
namespace Go.Proofs.Ytadejgckgnbaoaa
open Go Go.Sx
set_option linter.all false

abbrev Q := S_hachureref04qRest
/-- A rest, as the reference has it. -/
def toRest : Option Y → Q
  | none => ⟨false, [], 0, 0⟩
  | some y => ⟨true, y.2, y.1.1, y.1.2⟩
theorem e70 (a b : Q) (w : Bool) : F70v1 a b w = some (better w (a.Plaster, a.Many) (b.Plaster, b.Many)) := by
  unfold F70v1 better
  cases w with
  | true =>
    simp only [if_true]
    cases decide (a.Many < b.Many) with
    | true => rfl
    | false => cases (a.Many == b.Many) <;> rfl
  | false =>
    simp only [Bool.false_eq_true, if_false]
    cases decide (a.Plaster < b.Plaster) with
    | true => rfl
    | false => cases (a.Plaster == b.Plaster) <;> rfl
theorem e53' {a b : Int} (ha : 0 ≤ a ∧ a ≤ 10000) (hb : 0 ≤ b ∧ b ≤ 10000) (S : Int) : ∃ v, F53 a b = some v ∧ (v > S ↔ ¬ (a - S ≤ b ∧ b ≤ a + S)) := by
  unfold F53
  rw [w64_id (by omega) (by omega), w64_id (by omega) (by omega)]
  refine ⟨_, rfl, ?_⟩
  split <;> omega

section
variable {S : Int} {w : Bool} {ps : List P}
/-- The rests behind each height of a point. -/
def rests (S : Int) (w : Bool) (ps : List P) (i : Nat) : List Q := (up ps[i]!.Lo (ps[i]!.Hi - ps[i]!.Lo + 1).toNat).map fun h => toRest (beh S w ps i h)
theorem up_len : ∀ (n : Nat) (lo : Int), (up lo n).length = n := by
  intro n
  induction n with
  | zero => intro lo; rfl
  | succ n ih => intro lo; rw [up, List.length_cons, ih]
theorem up_get : ∀ (n : Nat) (lo : Int) (j : Nat), j < n → (up lo n)[j]? = some (lo + j) := by
  intro n
  induction n with
  | zero => intro lo j h; omega
  | succ n ih =>
    intro lo j h
    rw [up]
    cases j with
    | zero => simp
    | succ j => rw [List.getElem?_cons_succ, ih _ _ (by omega)]; congr 1; omega
theorem rests_len (i : Nat) : (rests S w ps i).length = (ps[i]!.Hi - ps[i]!.Lo + 1).toNat := by rw [rests, List.length_map, up_len]
theorem rests_get {i j : Nat} (h : j < (ps[i]!.Hi - ps[i]!.Lo + 1).toNat) : idx (rests S w ps i) j = some (toRest (beh S w ps i (ps[i]!.Lo + j))) := by
  unfold idx
  rw [if_pos (by omega), Int.toNat_natCast, rests, List.getElem?_map, up_get _ _ _ h]
  rfl

/-- Numbers as they may be. -/
structure Ok9 (S : Int) (ps : List P) : Prop where
  s0 : 0 ≤ S
  s1 : S ≤ 200
  n1 : ps.length ≤ 10
  pt : ∀ p ∈ ps, (0 ≤ p.Board ∧ p.Board ≤ 9000) ∧ (0 ≤ p.Lo ∧ p.Lo ≤ 9000) ∧ (0 ≤ p.Hi ∧ p.Hi ≤ 9000) ∧ p.Lo ≤ p.Hi ∧ p.Hi ≤ p.Lo + 30
theorem Ok9.at {i : Nat} (c : Ok9 S ps) (hi : i < ps.length) : (0 ≤ ps[i]!.Board ∧ ps[i]!.Board ≤ 9000) ∧ (0 ≤ ps[i]!.Lo ∧ ps[i]!.Lo ≤ 9000) ∧ (0 ≤ ps[i]!.Hi ∧ ps[i]!.Hi ≤ 9000) ∧ ps[i]!.Lo ≤ ps[i]!.Hi ∧ ps[i]!.Hi ≤ ps[i]!.Lo + 30 := by
  refine c.pt _ ?_
  rw [getElem!_pos ps i hi]; exact List.getElem_mem _
theorem Ok9.room (c : Ok9 S ps) (i : Nat) {deep lo hi : Int} (hd : 0 ≤ deep) {q : Y} (h : opt S w (ps.drop i) deep lo hi = some q) : (0 ≤ q.1.1 ∧ q.1.1 ≤ 90000) ∧ 0 ≤ q.1.2 ∧ q.1.2 ≤ 90000 := by
  obtain ⟨h1, h2, _⟩ := opt_some _ _ _ _ _ h
  have := cost_room _ deep lo hi q.2 ⟨fun p hp => c.pt p (List.mem_of_mem_drop hp)⟩ hd h1
  rw [← h2, List.length_drop] at this
  have := c.n1
  omega
theorem Ok9.slen (c : Ok9 S ps) (i : Nat) {deep lo hi : Int} {q : Y} (h : opt S w (ps.drop i) deep lo hi = some q) : q.2.length ≤ 10 := by
  obtain ⟨h1, _⟩ := opt_some _ _ _ _ _ h
  have := fit_len _ _ _ _ h1
  rw [List.length_drop] at this
  have := c.n1
  omega

theorem pick_rep {best : Option Y} {y : Y} : (best = none ∧ pick w best y = some y) ∨ ∃ b, best = some b ∧ pick w best y = if better w y.1 b.1 then some y else some b := by
  cases best with
  | none => exact .inl ⟨rfl, rfl⟩
  | some b => exact .inr ⟨b, rfl, rfl⟩

/-- The best of those behind a height of the point ahead. -/
theorem e69L2 (c : Ok9 S ps) {r : R} (hr : r = ⟨S, ps⟩) {i : Nat} (hi : i + 1 < ps.length) {h : Int} (h1 : ps[i]!.Lo ≤ h) (h2 : h ≤ ps[i]!.Hi) (acc : List Q) : ∀ (a j n : Nat) (best : Option Y), a < n → (j : Int) + a = ps[i + 1]!.Hi - ps[i + 1]!.Lo + 1 → 
    F69v1L2 r (rests S w ps (i + 1)) w ps[i]! (h, acc) ps[i + 1]! n (j, (toRest best).Is, (toRest best).Surface, (toRest best).Plaster, (toRest best).Many) =
      some (.inr (let q := toRest (((up (ps[i + 1]!.Lo + j) a).filterMap (cand ps[i + 1]! (pos (ps[i]!.Board - h)) (h - S) (h + S) (beh S w ps (i + 1)))).foldl (pick w) best); (q.Is, q.Surface, q.Plaster, q.Many))) := by
  have hp := c.at (i := i) (by omega)
  have hq := c.at hi
  subst hr
  have hS := c.s0
  have hS1 := c.s1
  intro a
  induction a with
  | zero =>
    intro j n best hn hj
    obtain ⟨n, rfl⟩ : ∃ j, n = j + 1 := ⟨n - 1, by omega⟩
    rw [F69v1L2, rests_len, if_neg (by simp only [decide_eq_true_eq]; omega)]
    rfl
  | succ a ih =>
    intro j n best hn hj
    obtain ⟨n, rfl⟩ : ∃ j, n = j + 1 := ⟨n - 1, by omega⟩
    rw [F69v1L2, rests_len, if_pos (by simp only [decide_eq_true_eq]; omega)]
    simp only
    rw [rests_get (by omega), w64_nat (by omega), w64_id (n := ps[i + 1]!.Lo + (j : Int)) (by omega) (by omega)]
    simp only [Option.bind_some]
    have ejs : ps[i + 1]!.Lo + ((j + 1 : Nat) : Int) = ps[i + 1]!.Lo + j + 1 := by omega
    have next1 := fun best => ih (j + 1) n best (by omega) (by omega)
    rw [ejs] at next1
    rw [up, List.filterMap_cons]
    obtain ⟨v, hv, hv'⟩ := e53' (a := h) (b := ps[i + 1]!.Lo + (j : Int)) (by omega) (by omega) S
    cases hb : beh S w ps (i + 1) (ps[i + 1]!.Lo + j) with
    | none =>
      have : cand ps[i + 1]! (pos (ps[i]!.Board - h)) (h - S) (h + S) (beh S w ps (i + 1)) (ps[i + 1]!.Lo + j) = none := by
        rw [cand, hb]; split <;> rfl
      rw [this]
      simp only [toRest, Bool.not_false, Bool.not_true, optG_false, Option.bind_some, cond_true, if_true]
      exact next1 best
    | some q =>
      have hroom := c.room (w := w) (i + 2) (pos_nonneg (ps[i + 1]!.Board - (ps[i + 1]!.Lo + j))) hb
      have hslen := c.slen (w := w) (i + 2) hb
      rw [need_true (by simp [toRest]; omega)]
      simp only [toRest, Bool.not_false, Bool.not_true, optG_true, cond_false]
      rw [hv]
      simp only [Option.bind_some]
      by_cases hc : h - S ≤ ps[i + 1]!.Lo + (j : Int) ∧ ps[i + 1]!.Lo + (j : Int) ≤ h + S
      · have e1 : decide (v > S) = false := by simp only [decide_eq_false_iff_not]; intro h'; exact (hv'.1 h') hc
        rw [e1]
        simp only [Bool.false_eq_true, if_false]
        rw [cand, if_pos hc, hb]
        simp only [Option.map_some, List.foldl_cons, List.singleton_append]
        have a1 := pos_nonneg (ps[i + 1]!.Lo + j - ps[i + 1]!.Board)
        have a2 := pos_le (n := ps[i + 1]!.Lo + j - ps[i + 1]!.Board) (m := 9000) (by omega) (by omega)
        have b0 := pos_nonneg (ps[i + 1]!.Board - (ps[i + 1]!.Lo + j))
        have b1 := pos_le (n := ps[i + 1]!.Board - (ps[i + 1]!.Lo + j)) (m := 9000) (by omega) (by omega)
        have d0 := pos_nonneg (ps[i]!.Board - h)
        have d1 := pos_le (n := ps[i]!.Board - h) (m := 9000) (by omega) (by omega)
        have c0 := pos_nonneg (pos (ps[i + 1]!.Board - (ps[i + 1]!.Lo + j)) - pos (ps[i]!.Board - h))
        have c1 := pos_le (n := pos (ps[i + 1]!.Board - (ps[i + 1]!.Lo + j)) - pos (ps[i]!.Board - h)) (m := 9000) (by omega) (by omega)
        have f1 : w64 (q.1.1 + (if w64 (ps[i + 1]!.Lo + (j : Int) - ps[i + 1]!.Board) > 0 then w64 (ps[i + 1]!.Lo + (j : Int) - ps[i + 1]!.Board) else 0)) = q.1.1 + pos (ps[i + 1]!.Lo + j - ps[i + 1]!.Board) := by
          rw [w64_id (n := ps[i + 1]!.Lo + (j : Int) - ps[i + 1]!.Board) (by omega) (by omega)]
          change w64 (q.1.1 + pos (ps[i + 1]!.Lo + j - ps[i + 1]!.Board)) = _
          rw [w64_id (by omega) (by omega)]
        have f2 : w64 (q.1.2 + (if w64 ((if w64 (ps[i + 1]!.Board - (ps[i + 1]!.Lo + (j : Int))) > 0 then w64 (ps[i + 1]!.Board - (ps[i + 1]!.Lo + (j : Int))) else 0) - (if w64 (ps[i]!.Board - h) > 0 then w64 (ps[i]!.Board - h) else 0)) > 0 then
            w64 ((if w64 (ps[i + 1]!.Board - (ps[i + 1]!.Lo + (j : Int))) > 0 then w64 (ps[i + 1]!.Board - (ps[i + 1]!.Lo + (j : Int))) else 0) - (if w64 (ps[i]!.Board - h) > 0 then w64 (ps[i]!.Board - h) else 0)) else 0)) = q.1.2 + pos (pos (ps[i + 1]!.Board - (ps[i + 1]!.Lo + j)) - pos (ps[i]!.Board - h)) := by
          rw [w64_id (n := ps[i + 1]!.Board - (ps[i + 1]!.Lo + (j : Int))) (by omega) (by omega), w64_id (n := ps[i]!.Board - h) (by omega) (by omega)]
          change w64 (q.1.2 + (if w64 (pos (ps[i + 1]!.Board - (ps[i + 1]!.Lo + j)) - pos (ps[i]!.Board - h)) > 0 then w64 (pos (ps[i + 1]!.Board - (ps[i + 1]!.Lo + j)) - pos (ps[i]!.Board - h)) else 0)) = _
          rw [w64_id (n := pos (ps[i + 1]!.Board - (ps[i + 1]!.Lo + j)) - pos (ps[i]!.Board - h)) (by omega) (by omega)]
          change w64 (q.1.2 + pos (pos (ps[i + 1]!.Board - (ps[i + 1]!.Lo + j)) - pos (ps[i]!.Board - h))) = _
          rw [w64_id (by omega) (by omega)]
        rw [f1, f2, e70]
        simp only
        cases best with
        | none =>
          simp only [Bool.not_false, Bool.not_true, optG_false, Option.bind_some, cond_true, if_true]
          exact next1 (some (cst ps[i + 1]! (pos (ps[i]!.Board - h)) (ps[i + 1]!.Lo + j) q.1, (ps[i + 1]!.Lo + j) :: q.2))
        | some b =>
          simp only [Bool.not_false, Bool.not_true, optG_true, Option.bind_some, cond_false, pick]
          change (if better w (cst ps[i + 1]! (pos (ps[i]!.Board - h)) (ps[i + 1]!.Lo + j) q.1) b.1 = true then _ else _) = _
          cases better w (cst ps[i + 1]! (pos (ps[i]!.Board - h)) (ps[i + 1]!.Lo + j) q.1) b.1 with
          | true =>
            simp only [if_true]
            exact next1 (some (cst ps[i + 1]! (pos (ps[i]!.Board - h)) (ps[i + 1]!.Lo + j) q.1, (ps[i + 1]!.Lo + j) :: q.2))
          | false =>
            simp only [Bool.false_eq_true, if_false]
            exact next1 (some b)
      · have e1 : decide (v > S) = true := by simp only [decide_eq_true_eq]; exact hv'.2 hc
        rw [e1]
        simp only [if_true]
        have : cand ps[i + 1]! (pos (ps[i]!.Board - h)) (h - S) (h + S) (beh S w ps (i + 1)) (ps[i + 1]!.Lo + j) = none := by rw [cand, if_neg hc]
        rw [this]
        exact next1 best

theorem beh_last (i : Nat) (hi : i + 1 = ps.length) (h : Int) : beh S w ps i h = some ((0, 0), []) := by
  rw [beh, List.drop_of_length_le (by omega)]; rfl
theorem beh_step (i : Nat) (hi : i + 1 < ps.length) (h : Int) : beh S w ps i h = ((up ps[i + 1]!.Lo (ps[i + 1]!.Hi - ps[i + 1]!.Lo + 1).toNat).filterMap (cand ps[i + 1]! (pos (ps[i]!.Board - h)) (h - S) (h + S) (beh S w ps (i + 1)))).foldl (pick w) none := by
  rw [beh, drop_bang hi, opt]; rfl
theorem e69L1 (c : Ok9 S ps) {k : Nat} (hk : 50 ≤ k) {r : R} (hr : r = ⟨S, ps⟩) {i : Nat} (hi : i < ps.length) {next : List Q} (hnext : i + 1 < ps.length → next = rests S w ps (i + 1)) : ∀ (a n : Nat) (h : Int) (acc : List Q), a < n → h + a = ps[i]!.Hi + 1 → ps[i]!.Lo ≤ h → acc.length ≤ 100 - a →
    F69v1L1 k r i next w ps[i]! n (h, acc) = some (.inr (acc ++ (up h a).map fun h => toRest (beh S w ps i h))) := by
  have hp := c.at hi
  have hL := c.n1
  subst hr
  intro a
  induction a with
  | zero =>
    intro n h acc hn hh hlo hacc
    obtain ⟨n, rfl⟩ : ∃ j, n = j + 1 := ⟨n - 1, by omega⟩
    rw [F69v1L1, if_neg (by simp only [decide_eq_true_eq]; omega)]
    simp [up]
  | succ a ih =>
    intro n h acc hn hh hlo hacc
    obtain ⟨n, rfl⟩ : ∃ j, n = j + 1 := ⟨n - 1, by omega⟩
    rw [F69v1L1, if_pos (by simp only [decide_eq_true_eq]; omega)]
    simp only
    have e : w64 ((ps.length : Int) - 1) = ((ps.length - 1 : Nat) : Int) := by rw [w64_id (by omega) (by omega)]; omega
    rw [e, w64_id (n := h + 1) (by omega) (by omega), w64_nat (i := i) (by omega)]
    by_cases hl : i + 1 < ps.length
    · rw [if_neg (by simp only [beq_iff_eq]; omega), idx_nat hl, hnext hl]
      simp only [Option.bind_some]
      have hq := c.at hl
      have := e69L2 (w := w) c rfl hl hlo (by omega) acc (ps[i + 1]!.Hi - ps[i + 1]!.Lo + 1).toNat 0 k none (by omega) (by omega)
      rw [show ((0 : Nat) : Int) = 0 from rfl] at this
      simp only [toRest] at this
      rw [this]
      simp only [Option.bind_some, outK_inr, Int.add_zero]
      rw [← beh_step i hl h, need_true (by simp; omega)]
      simp only [Option.bind_some]
      rw [← hnext hl]
      have := ih n (h + 1) (acc ++ [toRest (beh S w ps i h)]) (by omega) (by omega) (by omega) (by simp; omega)
      rw [up, List.map_cons]
      rw [List.append_assoc, List.singleton_append] at this
      exact this
    · have : ps.length - 1 = i := by omega
      rw [this, if_pos (by simp), need_true (by simp; omega)]
      simp only [Option.bind_some]
      have := ih n (h + 1) (acc ++ [toRest (beh S w ps i h)]) (by omega) (by omega) (by omega) (by simp; omega)
      rw [up, List.map_cons]
      rw [List.append_assoc, List.singleton_append] at this
      rw [← this, beh_last i (by omega) h]
      rfl
theorem e69 (c : Ok9 S ps) {k : Nat} (hk : 50 ≤ k) {r : R} (hr : r = ⟨S, ps⟩) {i : Nat} (hi : i < ps.length) {next : List Q} (hnext : i + 1 < ps.length → next = rests S w ps (i + 1)) : F69v1 k r i next w = some (rests S w ps i) := by
  have hp := c.at hi
  unfold F69v1
  have := e69L1 (w := w) c hk hr hi hnext (ps[i]!.Hi - ps[i]!.Lo + 1).toNat k ps[i]!.Lo [] (by omega) (by omega) (by omega) (by simp)
  have hrp : r.Points = ps := by rw [hr]
  rw [hrp, idx_nat hi]
  simp only [Option.bind_some]
  rw [this]
  rfl
theorem e37L1 (c : Ok9 S ps) {k : Nat} (hk : 50 ≤ k) {r : R} (hr : r = ⟨S, ps⟩) : ∀ (a n : Nat) (next : List Q), a < n → a ≤ ps.length → 0 < ps.length → (a < ps.length → next = rests S w ps a) →
    F37L1 k r w n (next, (a : Int) - 1) = some (.inr (rests S w ps 0)) := by
  have hL := c.n1
  intro a
  induction a with
  | zero =>
    intro n next hn ha h0 hnext
    obtain ⟨n, rfl⟩ : ∃ j, n = j + 1 := ⟨n - 1, by omega⟩
    rw [F37L1, if_neg (by simp), hnext h0]
  | succ a ih =>
    intro n next hn ha h0 hnext
    obtain ⟨n, rfl⟩ : ∃ j, n = j + 1 := ⟨n - 1, by omega⟩
    have e : ((a + 1 : Nat) : Int) - 1 = a := by omega
    rw [e, F37L1, if_pos (by simp)]
    simp only
    rw [e69 (w := w) c hk hr (by omega) hnext]
    simp only [Option.bind_some]
    rw [w64_id (by omega) (by omega)]
    exact ih n _ (by omega) (by omega) h0 fun _ => rfl
theorem e37L2 (c : Ok9 S ps) (h0 : 0 < ps.length) : ∀ (a j n : Nat) (best : Option Y), a < n → (j : Int) + a = ps[0]!.Hi - ps[0]!.Lo + 1 → 
    F37L2 w (rests S w ps 0) ps[0]! n (j, (toRest best).Is, (toRest best).Surface, (toRest best).Plaster, (toRest best).Many) =
      some (.inr (let q := toRest (((up (ps[0]!.Lo + j) a).filterMap (cand ps[0]! 0 0 9000 (beh S w ps 0))).foldl (pick w) best); (q.Is, q.Surface, q.Plaster, q.Many))) := by
  have hq := c.at h0
  intro a
  induction a with
  | zero =>
    intro j n best hn hj
    obtain ⟨n, rfl⟩ : ∃ j, n = j + 1 := ⟨n - 1, by omega⟩
    rw [F37L2, rests_len, if_neg (by simp only [decide_eq_true_eq]; omega)]
    rfl
  | succ a ih =>
    intro j n best hn hj
    obtain ⟨n, rfl⟩ : ∃ j, n = j + 1 := ⟨n - 1, by omega⟩
    rw [F37L2, rests_len, if_pos (by simp only [decide_eq_true_eq]; omega)]
    simp only
    rw [rests_get (by omega), w64_nat (by omega), w64_id (n := ps[0]!.Lo + (j : Int)) (by omega) (by omega)]
    simp only [Option.bind_some]
    have ejs : ps[0]!.Lo + ((j + 1 : Nat) : Int) = ps[0]!.Lo + j + 1 := by omega
    have next1 := fun best => ih (j + 1) n best (by omega) (by omega)
    rw [ejs] at next1
    rw [up, List.filterMap_cons]
    cases hb : beh S w ps 0 (ps[0]!.Lo + j) with
    | none =>
      have : cand ps[0]! 0 0 9000 (beh S w ps 0) (ps[0]!.Lo + j) = none := by
        rw [cand, hb]; split <;> rfl
      rw [this]
      simp only [toRest, Bool.not_false, if_true]
      exact next1 best
    | some q =>
      have hroom := c.room (w := w) 1 (pos_nonneg (ps[0]!.Board - (ps[0]!.Lo + j))) hb
      have hslen := c.slen (w := w) 1 hb
      rw [need_true (by simp [toRest]; omega)]
      simp only [toRest, Bool.not_true, Bool.false_eq_true, if_false, Option.bind_some]
      have hc : (0 : Int) ≤ ps[0]!.Lo + (j : Int) ∧ ps[0]!.Lo + (j : Int) ≤ 9000 := by omega
      rw [cand, if_pos hc, hb]
      simp only [Option.map_some, List.foldl_cons, List.singleton_append]
      have a1 := pos_nonneg (ps[0]!.Lo + j - ps[0]!.Board)
      have a2 := pos_le (n := ps[0]!.Lo + j - ps[0]!.Board) (m := 9000) (by omega) (by omega)
      have b0 := pos_nonneg (ps[0]!.Board - (ps[0]!.Lo + j))
      have b1 := pos_le (n := ps[0]!.Board - (ps[0]!.Lo + j)) (m := 9000) (by omega) (by omega)
      have f1 : w64 (q.1.1 + (if w64 (ps[0]!.Lo + (j : Int) - ps[0]!.Board) > 0 then w64 (ps[0]!.Lo + (j : Int) - ps[0]!.Board) else 0)) = q.1.1 + pos (ps[0]!.Lo + j - ps[0]!.Board) := by
        rw [w64_id (n := ps[0]!.Lo + (j : Int) - ps[0]!.Board) (by omega) (by omega)]
        change w64 (q.1.1 + pos (ps[0]!.Lo + j - ps[0]!.Board)) = _
        rw [w64_id (by omega) (by omega)]
      have f2 : w64 (q.1.2 + (if w64 (ps[0]!.Board - (ps[0]!.Lo + (j : Int))) > 0 then w64 (ps[0]!.Board - (ps[0]!.Lo + (j : Int))) else 0)) = q.1.2 + pos (pos (ps[0]!.Board - (ps[0]!.Lo + j)) - 0) := by
        rw [w64_id (n := ps[0]!.Board - (ps[0]!.Lo + (j : Int))) (by omega) (by omega)]
        change w64 (q.1.2 + pos (ps[0]!.Board - (ps[0]!.Lo + j))) = _
        have e : pos (pos (ps[0]!.Board - (ps[0]!.Lo + j)) - 0) = pos (ps[0]!.Board - (ps[0]!.Lo + j)) := by
          unfold pos; split <;> simp_all
        rw [e, w64_id (by omega) (by omega)]
      rw [f1, f2, e70]
      simp only
      cases best with
      | none =>
        simp only [Bool.not_false, Bool.not_true, optG_false, Option.bind_some, cond_true, if_true]
        exact next1 (some (cst ps[0]! 0 (ps[0]!.Lo + j) q.1, (ps[0]!.Lo + j) :: q.2))
      | some b =>
        simp only [Bool.not_false, Bool.not_true, optG_true, Option.bind_some, cond_false, pick]
        change (if better w (cst ps[0]! 0 (ps[0]!.Lo + j) q.1) b.1 = true then _ else _) = _
        cases better w (cst ps[0]! 0 (ps[0]!.Lo + j) q.1) b.1 with
        | true =>
          simp only [if_true]
          exact next1 (some (cst ps[0]! 0 (ps[0]!.Lo + j) q.1, (ps[0]!.Lo + j) :: q.2))
        | false =>
          simp only [Bool.false_eq_true, if_false]
          exact next1 (some b)
end
theorem bnd_ex {r : R} (hg : Good r) : ∃ l, Bnd r.Steep r.Points l := by
  obtain ⟨l, b, _, h, _⟩ := e51 (k := 60) (by omega) hg.pts (by have := hg.n0; omega)
  exact ⟨l, h.bnd⟩
theorem opt_is {r : R} (hg : Good r) (hs : Some' r.Steep r.Points) (w : Bool) : ∃ y, opt r.Steep w r.Points 0 0 9000 = some y := by
  obtain ⟨res, _, h⟩ := e36 (k := 60) (by omega) r w
  obtain ⟨y, h1, _⟩ := h.ok hg hs
  exact ⟨y, h1⟩
theorem e37 {k : Nat} (hk : 55 ≤ k) (r : R) (w : Bool) : ∃ res, F37 k r w = some res ∧ ORes r w res := by
  unfold F37
  rw [e17 (by omega), Option.bind_some]
  by_cases hg : Good r
  · have hL := hg.n1
    have hn0 := hg.n0
    rw [chk_good hg]
    simp only [beq_self_eq_true, optG_true, cond_true]
    obtain ⟨b, h1, h2⟩ := e52 (k := k) (by omega) hg.pts
    rw [h1, Option.bind_some]
    cases b with
    | true =>
      have hs := h2.1 rfl
      simp only [Bool.not_true, Bool.false_eq_true, if_false, Option.bind_some, outK_inr, bne_self_eq_false]
      have c : Ok9 r.Steep r.Points := ⟨hg.s0, hg.s1, hg.n1, hg.pt⟩
      rw [w64_id (by omega) (by omega)]
      have e1 := e37L1 (w := w) c (k := k) (by omega) (r := r) rfl r.Points.length k [] (by omega) (Nat.le_refl _) (by omega) (fun h => by omega)
      rw [e1]
      simp only [Option.bind_some, outK_inr]
      have hq := c.at (i := 0) (by omega)
      have i0 : idx r.Points 0 = some r.Points[0]! := idx_nat (i := 0) (by omega)
      rw [i0]
      simp only [Option.bind_some]
      have e2 := e37L2 (w := w) c (by omega) (r.Points[0]!.Hi - r.Points[0]!.Lo + 1).toNat 0 k none (by omega) (by omega)
      rw [show F37L2 w (rests r.Steep w r.Points 0) r.Points[0]! k (0, false, [], 0, 0) = _ from e2]
      simp only [Option.bind_some, outK_inr]
      have e3 : ((up (r.Points[0]!.Lo + ((0 : Nat) : Int)) (r.Points[0]!.Hi - r.Points[0]!.Lo + 1).toNat).filterMap (cand r.Points[0]! 0 0 9000 (beh r.Steep w r.Points 0))).foldl (pick w) none = opt r.Steep w r.Points 0 0 9000 := by
        have : r.Points = r.Points[0]! :: r.Points.drop 1 := by
          have := drop_bang (l := r.Points) (i := 0) (by omega)
          rwa [List.drop_zero] at this
        rw [show r.Points[0]!.Lo + ((0 : Nat) : Int) = r.Points[0]!.Lo by omega]
        conv => rhs; rw [this]
        rw [opt]
        rfl
      obtain ⟨y, hy⟩ := opt_is hg hs w
      rw [e3, hy]
      exact ⟨_, rfl, fun h => absurd hg h, fun _ h => absurd hs h, fun _ _ => ⟨y, hy, rfl⟩⟩
    | false => exact ⟨_, rfl, fun h => absurd hg h, fun _ h => rfl, fun _ h => by have := h2.2 h; cases this⟩
  · have hb := chk_bad hg
    have e : ((chk r).2.2 == 0) = false := by simpa using hb
    rw [e]
    simp only [optG_false, cond_false, Option.bind_some, Bool.false_eq_true, if_false, outK_inr]
    rw [if_pos (by simpa using hb)]
    exact ⟨_, rfl, fun _ => rfl, fun h => absurd h hg, fun h => absurd h hg⟩

theorem e35L1 {l : List Int} (hl : l.length < 2 ^ 62) : ∀ (m n i : Nat), m ≤ n → i + m = l.length → F35L1 l l (n + 1) i = some (.inr ()) := by
  intro m
  induction m with
  | zero => intro n i _ h; rw [F35L1, if_neg (by simp; omega)]
  | succ m ih =>
    intro n i hn hm
    obtain ⟨n, rfl⟩ : ∃ j, n = j + 1 := ⟨n - 1, by omega⟩
    rw [F35L1, if_pos (by simp; omega), idx_nat (by omega), Option.bind_some, Option.bind_some, if_neg (by simp), w64_nat (by omega)]
    exact ih n (i + 1) (by omega) (by omega)
theorem e35 {k : Nat} {l : List Int} (hk : l.length < k) (hl : l.length < 2 ^ 62) : F35 k l l = some true := by
  unfold F35
  rw [if_neg (by simp)]
  obtain ⟨k', rfl⟩ : ∃ j, k = j + 1 := ⟨k - 1, by omega⟩
  have := e35L1 hl l.length k' 0 (by omega) (by omega)
  rw [show (0 : Int) = ((0 : Nat) : Int) from rfl, this]
  rfl
theorem ORes.len {r : R} {w : Bool} {res : List Int × Int × Int × Int} (h : ORes r w res) : res.1.length ≤ 10 := by
  by_cases hg : Good r
  · by_cases hs : Some' r.Steep r.Points
    · obtain ⟨y, h1, h2⟩ := h.ok hg hs
      obtain ⟨h3, _⟩ := opt_some _ _ _ _ _ h1
      have := fit_len _ _ _ _ h3
      have := hg.n1
      rw [h2]; simp only; omega
    · rw [h.down hg hs]; simp
  · rw [h.bad hg]; simp
theorem law5 (r : R) : F5 60 r = some true := by
  have key : ∀ w, ∃ res, F36 60 r w = some res ∧ F37 60 r w = some res ∧ F35 60 res.1 res.1 = some true := by
    intro w
    obtain ⟨a, h1, h2⟩ := e36 (k := 60) (by omega) r w
    obtain ⟨b, h3, h4⟩ := e37 (k := 60) (by omega) r w
    obtain rfl := h2.uniq h4
    exact ⟨a, h1, h3, e35 (by have := h2.len; omega) (by have := h2.len; omega)⟩
  obtain ⟨a, h1, h2, h3⟩ := key false
  obtain ⟨b, h4, h5, h6⟩ := key true
  unfold F5
  have w1 : w64 (0 + 1) = 1 := rfl
  have w2 : w64 (1 + 1) = 2 := rfl
  have b0 : ((0 : Int) == 1) = false := rfl
  have b1 : ((1 : Int) == 1) = true := rfl
  rw [F5L1, if_pos (by simp), b0, h1, h2, Option.bind_some, Option.bind_some, h3, Option.bind_some, if_neg (by simp), w1, F5L1, if_pos (by simp), b1, h4, h5, Option.bind_some, Option.bind_some, h6, Option.bind_some, if_neg (by simp), w2, F5L1, if_neg (by simp), Option.bind_some, outK_inr, awake]
  rfl
end Go.Proofs.Ytadejgckgnbaoaa
