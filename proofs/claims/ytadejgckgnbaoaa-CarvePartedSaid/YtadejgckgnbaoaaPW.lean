/- The statements CarveWider and CarveTurned in plain words. -/
import Derived.Test.YtadejgckgnbaoaaPO
import Derived.Test.YtadejgckgnbaoaaDW
import Derived.Test.YtadejgckgnbaoaaDT
namespace Go.Proofs.Ytadejgckgnbaoaa
open Go Go.Sx
set_option linter.all false

def wLo (lo hi d : Int) : Int := w64 (lo - (if (if d < lo then d else lo) < w64 (30 - w64 (hi - lo)) then (if d < lo then d else lo) else w64 (30 - w64 (hi - lo))))
def wHi (lo hi d e : Int) : Int :=
  if w64 (hi + (if e < w64 (w64 (30 - w64 (hi - lo)) - (if (if d < lo then d else lo) < w64 (30 - w64 (hi - lo)) then (if d < lo then d else lo) else w64 (30 - w64 (hi - lo)))) then e else w64 (w64 (30 - w64 (hi - lo)) - (if (if d < lo then d else lo) < w64 (30 - w64 (hi - lo)) then (if d < lo then d else lo) else w64 (30 - w64 (hi - lo)))))) < 9000 then
    w64 (hi + (if e < w64 (w64 (30 - w64 (hi - lo)) - (if (if d < lo then d else lo) < w64 (30 - w64 (hi - lo)) then (if d < lo then d else lo) else w64 (30 - w64 (hi - lo)))) then e else w64 (w64 (30 - w64 (hi - lo)) - (if (if d < lo then d else lo) < w64 (30 - w64 (hi - lo)) then (if d < lo then d else lo) else w64 (30 - w64 (hi - lo)))))) else 9000
theorem wide_room {lo hi d e : Int} (h1 : 0 ≤ lo ∧ lo ≤ 9000) (h2 : 0 ≤ hi ∧ hi ≤ 9000) (h3 : lo ≤ hi ∧ hi ≤ lo + 30) (hd : 0 ≤ d ∧ d ≤ 3) (he : 0 ≤ e ∧ e ≤ 3) :
    (0 ≤ wLo lo hi d ∧ wLo lo hi d ≤ lo) ∧ (hi ≤ wHi lo hi d e ∧ wHi lo hi d e ≤ 9000) ∧ wHi lo hi d e ≤ wLo lo hi d + 30 := by
  have e1 : w64 (hi - lo) = hi - lo := w64_id (by omega) (by omega)
  have e2 : w64 (30 - (hi - lo)) = 30 - (hi - lo) := w64_id (by omega) (by omega)
  unfold wLo wHi
  rw [e1, e2]
  obtain ⟨m, hm⟩ : ∃ m, m = (if d < lo then d else lo) := ⟨_, rfl⟩
  rw [← hm]
  have hm' : 0 ≤ m ∧ m ≤ lo := by rw [hm]; split <;> omega
  obtain ⟨q, hq⟩ : ∃ q, q = (if m < 30 - (hi - lo) then m else 30 - (hi - lo)) := ⟨_, rfl⟩
  rw [← hq]
  have hq' : 0 ≤ q ∧ q ≤ lo ∧ q ≤ 30 - (hi - lo) := by rw [hq]; split <;> omega
  rw [w64_id (n := lo - q) (by omega) (by omega), w64_id (n := 30 - (hi - lo) - q) (by omega) (by omega)]
  obtain ⟨u, hu⟩ : ∃ u, u = (if e < 30 - (hi - lo) - q then e else 30 - (hi - lo) - q) := ⟨_, rfl⟩
  rw [← hu]
  have hu' : 0 ≤ u ∧ u ≤ 30 - (hi - lo) - q := by rw [hu]; split <;> omega
  rw [w64_id (n := hi + u) (by omega) (by omega)]
  split <;> omega
/-- A row that allows more. -/
structure Wide (r v : R) : Prop where
  good : Good v
  len : v.Points.length = r.Points.length
  steep : r.Steep ≤ v.Steep
  lo : ∀ i, i < r.Points.length → v.Points[i]!.Lo ≤ r.Points[i]!.Lo
  hi : ∀ i, i < r.Points.length → r.Points[i]!.Hi ≤ v.Points[i]!.Hi
  board : ∀ i, i < r.Points.length → v.Points[i]!.Board = r.Points[i]!.Board
theorem fills_congr : ∀ (ps qs : List P) (s : List Int), qs.length = ps.length → (∀ i, i < ps.length → qs[i]!.Board = ps[i]!.Board) → fills qs s = fills ps s := by
  intro ps
  induction ps with
  | nil => intro qs s h _; rw [List.length_eq_zero_iff.1 h]
  | cons p ps ih =>
    intro qs s h hb
    cases qs with
    | nil => simp at h
    | cons q qs =>
      cases s with
      | nil => rfl
      | cons x s =>
        have h0 := hb 0 (by simp)
        rw [cons_get0, cons_get0] at h0
        rw [fills, fills, h0, ih qs s (by simpa using h) fun i hi => by have := hb (i + 1) (by simpa using hi); rwa [cons_get, cons_get] at this]
theorem depths_congr : ∀ (ps qs : List P) (s : List Int), qs.length = ps.length → (∀ i, i < ps.length → qs[i]!.Board = ps[i]!.Board) → depths qs s = depths ps s := by
  intro ps
  induction ps with
  | nil => intro qs s h _; rw [List.length_eq_zero_iff.1 h]
  | cons p ps ih =>
    intro qs s h hb
    cases qs with
    | nil => simp at h
    | cons q qs =>
      cases s with
      | nil => rfl
      | cons x s =>
        have h0 := hb 0 (by simp)
        rw [cons_get0, cons_get0] at h0
        rw [depths, depths, h0, ih qs s (by simpa using h) fun i hi => by have := hb (i + 1) (by simpa using hi); rwa [cons_get, cons_get] at this]
theorem Wide.fine {r v : R} (h : Wide r v) {s : List Int} (hs : Fine r s) : Fine v s := by
  refine ⟨hs.len.trans h.len.symm, fun i hi => ?_, fun i hi => ?_⟩
  · rw [h.len] at hi
    have := hs.bnd i hi; have := h.lo i hi; have := h.hi i hi; omega
  · rw [h.len] at hi
    have := hs.step i hi; have := h.steep; omega
theorem Wide.some {r v : R} (h : Wide r v) (hs : Some' r.Steep r.Points) : Some' v.Steep v.Points := by
  intro a b ha hb
  rw [h.len] at ha hb
  have h1 := hs a b ha hb
  have h2 := h.lo a ha
  have h3 := h.hi b hb
  have h4 := far_mono h.steep a b
  omega
theorem Wide.bnd {r v : R} (h : Wide r v) {l m : List Sp} (hl : Bnd r.Steep r.Points l) (hm : Bnd v.Steep v.Points m) {i : Nat} (hi : i < r.Points.length) : m[i]!.Lo ≤ l[i]!.Lo ∧ l[i]!.Hi ≤ m[i]!.Hi := by
  have hlen := h.len
  obtain ⟨k, k1, k2⟩ := (hm.lo i (by omega)).is
  have a := (hl.lo i hi).ub k (by omega)
  have b := h.lo k (by omega)
  have c := far_mono h.steep i k
  obtain ⟨j, j1, j2⟩ := (hm.hi i (by omega)).is
  have a' := (hl.hi i hi).ub j (by omega)
  have b' := h.hi j (by omega)
  have c' := far_mono h.steep i j
  omega
theorem e12L1 {r : R} (hg : Good r) {by_ : S__3quint8} {d e : Int} (hd : d = (IntKind.i64.wrap by_.e1).tmod 4) (he : e = (IntKind.i64.wrap by_.e2).tmod 4) (hd' : 0 ≤ d ∧ d ≤ 3) (he' : 0 ≤ e ∧ e ≤ 3) : ∀ (m n i : Nat) (l : List P), m < n → i + m = r.Points.length → l.length = i →
    (∀ j, j < i → l[j]! = ⟨r.Points[j]!.Board, wLo r.Points[j]!.Lo r.Points[j]!.Hi d, wHi r.Points[j]!.Lo r.Points[j]!.Hi d e⟩) →
    ∃ l', F12L1 r by_ n (i, l) = some (.inr l') ∧ l'.length = r.Points.length ∧ ∀ j, j < r.Points.length → l'[j]! = ⟨r.Points[j]!.Board, wLo r.Points[j]!.Lo r.Points[j]!.Hi d, wHi r.Points[j]!.Lo r.Points[j]!.Hi d e⟩ := by
  have hL := hg.n1
  intro m
  induction m with
  | zero =>
    intro n i l hn hi hl h
    obtain ⟨n, rfl⟩ : ∃ j, n = j + 1 := ⟨n - 1, by omega⟩
    rw [F12L1, if_neg (by simp; omega)]
    exact ⟨l, rfl, by omega, fun j hj => h j (by omega)⟩
  | succ m ih =>
    intro n i l hn hi hl h
    obtain ⟨n, rfl⟩ : ∃ j, n = j + 1 := ⟨n - 1, by omega⟩
    rw [F12L1, if_pos (by simp; omega)]
    simp only
    rw [idx_nat (by omega), Option.bind_some, ← hd, ← he]
    have e0 := need_true (p := (l.length + ([(⟨r.Points[i]!.Board, wLo r.Points[i]!.Lo r.Points[i]!.Hi d, wHi r.Points[i]!.Lo r.Points[i]!.Hi d e⟩ : P)] : List P).length) * 24 ≤ 140737488355328 ∧ l.length + ([(⟨r.Points[i]!.Board, wLo r.Points[i]!.Lo r.Points[i]!.Hi d, wHi r.Points[i]!.Lo r.Points[i]!.Hi d e⟩ : P)] : List P).length ≤ 9223372036854775807) (by simp; omega)
    have e1 : F12L1 r by_ n ((i + 1 : Nat), l ++ [(⟨r.Points[i]!.Board, wLo r.Points[i]!.Lo r.Points[i]!.Hi d, wHi r.Points[i]!.Lo r.Points[i]!.Hi d e⟩ : P)]) = F12L1 r by_ n (w64 ((i : Int) + 1), l ++ [(⟨r.Points[i]!.Board, wLo r.Points[i]!.Lo r.Points[i]!.Hi d, wHi r.Points[i]!.Lo r.Points[i]!.Hi d e⟩ : P)]) := by rw [w64_nat (by omega)]
    have := ih n (i + 1) (l ++ [(⟨r.Points[i]!.Board, wLo r.Points[i]!.Lo r.Points[i]!.Hi d, wHi r.Points[i]!.Lo r.Points[i]!.Hi d e⟩ : P)]) (by omega) (by omega) (by simp [hl]) (fun j hj => by
      rw [getb_append _ _ _ (by omega)]
      by_cases e : j = l.length
      · rw [if_pos e, e, hl]
      · rw [if_neg e]; exact h j (by omega))
    rw [e1] at this
    unfold wLo wHi at e0 this ⊢
    rw [e0, Option.bind_some]
    exact this
theorem e12L2 {l m : List Sp} (hl : l.length ≤ 10) (hlm : m.length = l.length) {x y : Int} (h : ∀ i, i < l.length → m[i]!.Lo ≤ l[i]!.Lo ∧ l[i]!.Hi ≤ m[i]!.Hi) : ∀ (k n i : Nat), k < n → i + k = l.length → F12L2 (l, x) (m, y) n i = some (.inr ()) := by
  intro k
  induction k with
  | zero =>
    intro n i hn hi
    obtain ⟨n, rfl⟩ : ∃ j, n = j + 1 := ⟨n - 1, by omega⟩
    rw [F12L2, if_neg (by simp; omega)]
  | succ k ih =>
    intro n i hn hi
    obtain ⟨n, rfl⟩ : ∃ j, n = j + 1 := ⟨n - 1, by omega⟩
    have hi' := h i (by omega)
    rw [F12L2, if_pos (by simp; omega)]
    simp only
    rw [idx_nat (by omega), idx_nat (by omega)]
    simp only [Option.bind_some]
    have e1 : decide (m[i]!.Lo > l[i]!.Lo) = false := by simp only [decide_eq_false_iff_not]; omega
    have e2 : decide (m[i]!.Hi < l[i]!.Hi) = false := by simp only [decide_eq_false_iff_not]; omega
    rw [e1]
    simp only [Bool.not_false, optG_true, Option.bind_some, cond_false]
    rw [e2, if_neg (by simp), w64_nat (by omega)]
    exact ih n (i + 1) (by omega) (by omega)
theorem wide_best {r v : R} (hg : Good r) (h : Wide r v) (hs : Some' r.Steep r.Points) {w : Bool} {a b : List Int × Int × Int × Int} (ha : ORes r w a) (hb : ORes v w b) : a.2.2.2 = 0 ∧ b.2.2.2 = 0 ∧ better w (a.2.1, a.2.2.1) (b.2.1, b.2.2.1) = false := by
  obtain ⟨a1, a2, a3, a4, a5⟩ := ha.best hg hs
  obtain ⟨b1, b2, b3, b4, b5⟩ := hb.best h.good (h.some hs)
  refine ⟨a1, b1, ?_⟩
  have := b5 a.1 (h.fine a2)
  rw [fills_congr _ _ _ h.len h.board, depths_congr _ _ _ h.len h.board, ← a3, ← a4] at this
  exact this
theorem law12 (r : R) (by_ : S__3quint8) (h0 : 0 ≤ by_.e0 ∧ by_.e0 ≤ 255) (h1 : 0 ≤ by_.e1 ∧ by_.e1 ≤ 255) (h2 : 0 ≤ by_.e2 ∧ by_.e2 ≤ 255) : F12 200 r by_ = some true := by
  unfold F12
  obtain ⟨v, hv1, hv2⟩ := e40 (k := 200) (by omega) r
  rw [hv1, Option.bind_some]
  by_cases hg : Good r
  · have ev : v = true := hv2.2 hg
    have hL := hg.n1
    have hs0 := hg.s0
    have hs1 := hg.s1
    rw [ev, if_neg (by simp)]
    have wr : ∀ x : Int, 0 ≤ x ∧ x ≤ 255 → 0 ≤ (IntKind.i64.wrap x).tmod 4 ∧ (IntKind.i64.wrap x).tmod 4 ≤ 3 := by
      intro x hx
      rw [show IntKind.i64.wrap x = w64 x from rfl, w64_id (by omega) (by omega)]
      have := tmod_room hx.1 (show (0 : Int) < 4 by omega)
      omega
    have w0 := wr _ h0
    have w1 := wr _ h1
    have w2 := wr _ h2
    obtain ⟨ws, g1, g2, g3⟩ := e12L1 hg rfl rfl w1 w2 r.Points.length 200 0 [] (by omega) (by omega) rfl (fun j hj => by omega)
    rw [show ((0 : Nat) : Int) = 0 from rfl] at g1
    rw [g1, Option.bind_some, outK_inr]
    have es : (if w64 (r.Steep + (IntKind.i64.wrap by_.e0).tmod 4) < 200 then w64 (r.Steep + (IntKind.i64.wrap by_.e0).tmod 4) else 200) = min 200 (r.Steep + (IntKind.i64.wrap by_.e0).tmod 4) := by
      rw [w64_id (by omega) (by omega)]; split <;> omega
    rw [es]
    have hroom : ∀ i, i < r.Points.length → (ws[i]!.Board = r.Points[i]!.Board ∧ (0 ≤ ws[i]!.Lo ∧ ws[i]!.Lo ≤ r.Points[i]!.Lo) ∧ (r.Points[i]!.Hi ≤ ws[i]!.Hi ∧ ws[i]!.Hi ≤ 9000) ∧ ws[i]!.Hi ≤ ws[i]!.Lo + 30) ∧ (0 ≤ r.Points[i]!.Board ∧ r.Points[i]!.Board ≤ 9000) ∧ (r.Points[i]!.Lo ≤ r.Points[i]!.Hi ∧ r.Points[i]!.Lo ≤ 9000 ∧ 0 ≤ r.Points[i]!.Hi) := by
      intro i hi
      have hp := hg.pt r.Points[i]! (by rw [getElem!_pos r.Points i hi]; exact List.getElem_mem _)
      have := wide_room (d := (IntKind.i64.wrap by_.e1).tmod 4) (e := (IntKind.i64.wrap by_.e2).tmod 4) hp.2.1 hp.2.2.1 hp.2.2.2 w1 w2
      rw [g3 i hi]
      refine ⟨⟨rfl, ?_⟩, by omega⟩
      simp only
      omega
    have hw : Wide r ⟨min 200 (r.Steep + (IntKind.i64.wrap by_.e0).tmod 4), ws⟩ := by
      refine ⟨⟨by simp only; omega, by simp only; omega, by simp only; have := hg.n0; omega, by simp only; omega, ?_⟩, g2, by simp only; omega, fun i hi => (hroom i hi).1.2.1.2, fun i hi => (hroom i hi).1.2.2.1.1, fun i hi => (hroom i hi).1.1⟩
      intro p hp
      simp only at hp
      obtain ⟨i, hi, rfl⟩ := List.mem_iff_getElem.1 hp
      have := hroom i (by omega)
      rw [getElem!_pos ws i hi] at this
      omega
    obtain ⟨a, ha1, ha2⟩ := e18 (k := 200) (by omega) r
    obtain ⟨b, hb1, hb2⟩ := e18 (k := 200) (by omega) ⟨min 200 (r.Steep + (IntKind.i64.wrap by_.e0).tmod 4), ws⟩
    rw [ha1, Option.bind_some, hb1, Option.bind_some]
    by_cases hs : Some' r.Steep r.Points
    · obtain ⟨k1, k2⟩ := ha2.ok hg hs
      obtain ⟨k3, k4⟩ := hb2.ok hw.good (hw.some hs)
      have l1 := k2.len
      have l2 := k4.len
      simp only at l2
      rw [k1, k3, if_neg (by simp), if_neg (by simp; omega)]
      have := e12L2 (l := a.1) (m := b.1) (x := a.2) (y := b.2) (by omega) (by omega) (fun i hi => hw.bnd k2 k4 (by omega)) a.1.length 200 0 (by omega) (by omega)
      rw [show ((0 : Nat) : Int) = 0 from rfl] at this
      rw [this, Option.bind_some, outK_inr]
      obtain ⟨c, c1, c2⟩ := e36 (k := 200) (by omega) r false
      obtain ⟨d, d1, d2⟩ := e36 (k := 200) (by omega) ⟨min 200 (r.Steep + (IntKind.i64.wrap by_.e0).tmod 4), ws⟩ false
      obtain ⟨e, e1, e2⟩ := e36 (k := 200) (by omega) r true
      obtain ⟨f, f1, f2⟩ := e36 (k := 200) (by omega) ⟨min 200 (r.Steep + (IntKind.i64.wrap by_.e0).tmod 4), ws⟩ true
      rw [c1, Option.bind_some, d1, Option.bind_some, e1, Option.bind_some, f1, Option.bind_some]
      obtain ⟨p1, p2, p3⟩ := wide_best hg hw hs c2 d2
      obtain ⟨q1, q2, q3⟩ := wide_best hg hw hs e2 f2
      have t1 := better_le0 p3
      have t2 := better_le1 q3
      simp only at t1 t2
      have u1 : decide (d.2.1 ≤ c.2.1) = true := by simp only [decide_eq_true_eq]; omega
      have u2 : decide (f.2.2.1 ≤ e.2.2.1) = true := by simp only [decide_eq_true_eq]; omega
      rw [p1, p2, q1, q2, u1, u2]
      simp only [beq_self_eq_true, cond_true, optG_true, awake200, Option.bind_some]
    · have k1 := ha2.down hg hs
      have k2 : b.2 = 0 ∨ b.2 = 9 := by
        by_cases hs' : Some' (min 200 (r.Steep + (IntKind.i64.wrap by_.e0).tmod 4)) ws
        · exact .inl (hb2.ok hw.good hs').1
        · exact .inr (by rw [hb2.down hw.good hs'])
      rw [k1, if_pos (by simp)]
      rcases k2 with k2 | k2
      · rw [k2]; simp only [beq_self_eq_true, cond_true, optG_true, awake200, Option.bind_some]
      · rw [k2]; simp [awake200, optG]
  · have ev : v = false := by
      cases v with
      | false => rfl
      | true => exact absurd (hv2.1 rfl) hg
    rw [ev, if_pos (by simp), awake200]; rfl

/-- Ups and downs of some numbers. -/
def ups : List Int → Int
  | [] => 0
  | [_] => 0
  | x :: y :: l => pos (y - x) + ups (y :: l)
def downs : List Int → Int
  | [] => 0
  | [_] => 0
  | x :: y :: l => pos (x - y) + downs (y :: l)
theorem ups_many : ∀ (l : List Int) (e : Int), manyL e l = ups (e :: l) := by
  intro l
  induction l with
  | nil => intro e; rfl
  | cons x l ih => intro e; rw [manyL, ups, ih]
theorem ups_app : ∀ (l : List Int) (x : Int) (m : List Int), ups (l ++ x :: m) = ups (l ++ [x]) + ups (x :: m) := by
  intro l
  induction l with
  | nil => intro x m; simp [ups]
  | cons y l ih =>
    intro x m
    cases l with
    | nil => simp only [List.cons_append, List.nil_append, ups]; omega
    | cons z l =>
      have := ih x m
      simp only [List.cons_append] at this ⊢
      rw [ups, ups, this]; omega
theorem ups_rev : ∀ (l : List Int), ups l.reverse = downs l := by
  intro l
  induction l with
  | nil => rfl
  | cons x l ih =>
    cases l with
    | nil => rfl
    | cons y l =>
      rw [List.reverse_cons, List.reverse_cons, List.append_assoc, List.singleton_append, ups_app, ← List.reverse_cons, ih, downs]
      simp only [ups]; omega
theorem ups_downs : ∀ (l : List Int) (x z : Int), ups (x :: (l ++ [z])) - downs (x :: (l ++ [z])) = z - x := by
  intro l
  induction l with
  | nil => intro x z; simp only [List.nil_append, ups, downs, pos]; split <;> split <;> omega
  | cons y l ih =>
    intro x z
    have := ih y z
    rw [List.cons_append, ups, downs]
    have h : pos (y - x) - pos (x - y) = y - x := by unfold pos; split <;> split <;> omega
    omega
theorem ups_end : ∀ (l : List Int) (x : Int), 0 ≤ x → (∀ d ∈ l, 0 ≤ d) → ups (x :: (l ++ [0])) = ups (x :: l) := by
  intro l
  induction l with
  | nil => intro x hx _; simp only [List.nil_append, ups, pos]; split <;> omega
  | cons y l ih => intro x hx h; rw [List.cons_append, ups, ups, ih y (h y (by simp)) (fun d hd => h d (by simp [hd]))]
theorem many_rev {l : List Int} (h : ∀ d ∈ l, 0 ≤ d) : manyL 0 l.reverse = manyL 0 l := by
  rw [ups_many, ups_many, ← ups_end l 0 (by omega) h, ← ups_end l.reverse 0 (by omega) (fun d hd => h d (by simpa using hd))]
  have e : (0 : Int) :: (l.reverse ++ [0]) = (0 :: (l ++ [0])).reverse := by simp
  rw [e, ups_rev]
  have := ups_downs l 0 0
  omega
theorem fills_snoc : ∀ (ps : List P) (s : List Int) (p : P) (x : Int), s.length = ps.length → fills (ps ++ [p]) (s ++ [x]) = fills ps s + pos (x - p.Board) := by
  intro ps
  induction ps with
  | nil => intro s p x h; rw [List.length_eq_zero_iff.1 h]; simp [fills]
  | cons q ps ih =>
    intro s p x h
    cases s with
    | nil => simp at h
    | cons y s => rw [List.cons_append, List.cons_append, fills, fills, ih s p x (by simpa using h)]; omega
theorem depths_snoc : ∀ (ps : List P) (s : List Int) (p : P) (x : Int), s.length = ps.length → depths (ps ++ [p]) (s ++ [x]) = depths ps s ++ [pos (p.Board - x)] := by
  intro ps
  induction ps with
  | nil => intro s p x h; rw [List.length_eq_zero_iff.1 h]; simp [depths]
  | cons q ps ih =>
    intro s p x h
    cases s with
    | nil => simp at h
    | cons y s => rw [List.cons_append, List.cons_append, depths, depths, ih s p x (by simpa using h)]; rfl
theorem fills_rev : ∀ (ps : List P) (s : List Int), s.length = ps.length → fills ps.reverse s.reverse = fills ps s ∧ depths ps.reverse s.reverse = (depths ps s).reverse := by
  intro ps
  induction ps with
  | nil => intro s h; rw [List.length_eq_zero_iff.1 h]; exact ⟨rfl, rfl⟩
  | cons p ps ih =>
    intro s h
    cases s with
    | nil => simp at h
    | cons x s =>
      have h' : s.length = ps.length := by simpa using h
      obtain ⟨a, b⟩ := ih s h'
      rw [List.reverse_cons, List.reverse_cons, fills_snoc _ _ _ _ (by simpa using h'), depths_snoc _ _ _ _ (by simpa using h'), a, b, fills, depths, List.reverse_cons]
      exact ⟨by omega, rfl⟩
theorem rev_get {α : Type} [Inhabited α] (l : List α) {i : Nat} (h : i < l.length) : l.reverse[i]! = l[l.length - 1 - i]! := by
  rw [getElem!_pos l.reverse i (by simpa using h), getElem!_pos l _ (by omega), List.getElem_reverse]
theorem far_rev (S : Int) {n i k : Nat} (hi : i < n) (hk : k < n) : far S (n - 1 - i) (n - 1 - k) = far S i k := by
  unfold far; congr 1; unfold dist; split <;> split <;> omega
/-- The row in the opposite order. -/
def back (r : R) : R := ⟨r.Steep, r.Points.reverse⟩
theorem back_good {r : R} (h : Good r) : Good (back r) := ⟨h.s0, h.s1, by simpa [back] using h.n0, by simpa [back] using h.n1, fun p hp => h.pt p (by simpa [back] using hp)⟩
theorem some_rev {S : Int} {ps : List P} (h : Some' S ps) : Some' S ps.reverse := by
  intro a b ha hb
  rw [List.length_reverse] at ha hb
  rw [rev_get _ ha, rev_get _ hb, ← far_rev S ha hb]
  exact h _ _ (by omega) (by omega)
theorem some_rev' {S : Int} {ps : List P} : Some' S ps.reverse ↔ Some' S ps :=
  ⟨fun h => by have := some_rev h; rwa [List.reverse_reverse] at this, some_rev⟩
theorem Bnd.rev {S : Int} {ps : List P} {l : List Sp} (h : Bnd S ps l) : Bnd S ps.reverse l.reverse := by
  have hlen := h.len
  refine ⟨by simp [hlen], fun j hj => ?_, fun j hj => ?_⟩
  · rw [List.length_reverse] at hj
    rw [rev_get l (by omega), hlen]
    obtain ⟨k, k1, k2⟩ := (h.lo (ps.length - 1 - j) (by omega)).is
    refine ⟨fun m hm => ?_, ps.length - 1 - k, by rw [List.length_reverse]; omega, ?_⟩
    · rw [List.length_reverse] at hm
      have := (h.lo (ps.length - 1 - j) (by omega)).ub (ps.length - 1 - m) (by omega)
      rw [far_rev S hj hm] at this
      rw [rev_get _ hm]; exact this
    · rw [rev_get _ (by omega), show ps.length - 1 - (ps.length - 1 - k) = k by omega, k2]
      have := far_rev S (n := ps.length) (i := ps.length - 1 - j) (k := k) (by omega) k1
      rw [show ps.length - 1 - (ps.length - 1 - j) = j by omega] at this
      rw [this]
  · rw [List.length_reverse] at hj
    rw [rev_get l (by omega), hlen]
    obtain ⟨k, k1, k2⟩ := (h.hi (ps.length - 1 - j) (by omega)).is
    refine ⟨fun m hm => ?_, ps.length - 1 - k, by rw [List.length_reverse]; omega, ?_⟩
    · rw [List.length_reverse] at hm
      have := (h.hi (ps.length - 1 - j) (by omega)).ub (ps.length - 1 - m) (by omega)
      rw [far_rev S hj hm] at this
      rw [rev_get _ hm]; exact this
    · rw [rev_get _ (by omega), show ps.length - 1 - (ps.length - 1 - k) = k by omega, k2]
      have := far_rev S (n := ps.length) (i := ps.length - 1 - j) (k := k) (by omega) k1
      rw [show ps.length - 1 - (ps.length - 1 - j) = j by omega] at this
      rw [this]
theorem Fine.rev {r : R} {s : List Int} (h : Fine r s) : Fine (back r) s.reverse := by
  have hlen := h.len
  have hb : (back r).Points.length = r.Points.length := by simp [back]
  refine ⟨by simp [back, hlen], fun i hi => ?_, fun i hi => ?_⟩
  · rw [hb] at hi
    rw [rev_get s (by omega), show (back r).Points = r.Points.reverse from rfl, rev_get r.Points hi, hlen]
    exact h.bnd _ (by omega)
  · rw [hb] at hi
    rw [rev_get s (by omega), rev_get s (by omega), hlen]
    have := h.step (r.Points.length - 1 - (i + 1)) (by omega)
    rw [show r.Points.length - 1 - (i + 1) + 1 = r.Points.length - 1 - i by omega] at this
    show s[r.Points.length - 1 - i]! - r.Steep ≤ _ ∧ _ ≤ s[r.Points.length - 1 - i]! + r.Steep
    omega
theorem back_back (r : R) : back (back r) = r := by simp [back]
theorem back_cost {r : R} (hg : Good r) {s : List Int} (h : Fine r s) : fills (back r).Points s.reverse = fills r.Points s ∧ manyL 0 (depths (back r).Points s.reverse) = manyL 0 (depths r.Points s) := by
  obtain ⟨a, b⟩ := fills_rev r.Points s h.len
  have hd := (h.goodS hg).deep
  refine ⟨a, ?_⟩
  rw [show (back r).Points = r.Points.reverse from rfl, b, many_rev fun d hd' => (hd d hd').1]
theorem turned_best {r : R} (hg : Good r) {w : Bool} {a b : List Int × Int × Int × Int} (ha : ORes r w a) (hb : ORes (back r) w b) : a.2.1 = b.2.1 ∧ a.2.2.1 = b.2.2.1 ∧ a.2.2.2 = b.2.2.2 := by
  by_cases hs : Some' r.Steep r.Points
  · have hs' : Some' (back r).Steep (back r).Points := some_rev hs
    obtain ⟨a1, a2, a3, a4, a5⟩ := ha.best hg hs
    obtain ⟨b1, b2, b3, b4, b5⟩ := hb.best (back_good hg) hs'
    have c1 := b5 _ a2.rev
    obtain ⟨d1, d2⟩ := back_cost hg a2
    rw [d1, d2, ← a3, ← a4] at c1
    have e2 := b2.rev
    obtain ⟨d3, d4⟩ := back_cost (back_good hg) b2
    rw [back_back] at e2 d3 d4
    have c2 := a5 _ e2
    rw [d3, d4, ← b3, ← b4] at c2
    have := better_total c1 c2
    simp only [Prod.mk.injEq] at this
    exact ⟨this.1, this.2, a1.trans b1.symm⟩
  · have hs' : ¬ Some' (back r).Steep (back r).Points := fun h => hs (some_rev'.1 h)
    rw [ha.down hg hs, hb.down (back_good hg) hs']; exact ⟨rfl, rfl, rfl⟩
theorem Need'.rev {ps : List P} {v : Int} (h : Need' ps v) : Need' ps.reverse v := ⟨h.ge, h.le, some_rev h.is, fun S h0 h1 hs => h.not S h0 h1 (some_rev'.1 hs)⟩
theorem e47L1 {r : R} (hL : r.Points.length ≤ 10) : ∀ (m n : Nat) (l : List P), m < n → m ≤ r.Points.length → l = (r.Points.drop m).reverse → F47L1 r n ((m : Int) - 1, l) = some (.inr r.Points.reverse) := by
  intro m
  induction m with
  | zero =>
    intro n l hn hm hl
    obtain ⟨n, rfl⟩ : ∃ j, n = j + 1 := ⟨n - 1, by omega⟩
    rw [F47L1, if_neg (by simp), hl]; simp
  | succ m ih =>
    intro n l hn hm hl
    obtain ⟨n, rfl⟩ : ∃ j, n = j + 1 := ⟨n - 1, by omega⟩
    rw [show ((m + 1 : Nat) : Int) - 1 = m by omega, F47L1, if_pos (by simp)]
    simp only
    rw [idx_nat (by omega), Option.bind_some, need_true (by rw [hl]; simp; omega), Option.bind_some, w64_id (by omega) (by omega)]
    refine ih n _ (by omega) (by omega) ?_
    rw [hl, drop_bang (l := r.Points) (i := m) (by omega), List.reverse_cons]
theorem e47 {k : Nat} (hk : 20 ≤ k) {r : R} (hL : r.Points.length ≤ 10) : F47 k r = some (back r) := by
  unfold F47
  rw [w64_id (by omega) (by omega), e47L1 hL r.Points.length k [] (by omega) (Nat.le_refl _) (by simp)]
  rfl
theorem e13L1 {l : List Sp} (hl : l.length ≤ 10) {x y : Int} : ∀ (k n i : Nat), k < n → i + k = l.length → F13L1 (l, x) (l.reverse, y) n i = some (.inr ()) := by
  intro k
  induction k with
  | zero =>
    intro n i hn hi
    obtain ⟨n, rfl⟩ : ∃ j, n = j + 1 := ⟨n - 1, by omega⟩
    rw [F13L1, if_neg (by simp; omega)]
  | succ k ih =>
    intro n i hn hi
    obtain ⟨n, rfl⟩ : ∃ j, n = j + 1 := ⟨n - 1, by omega⟩
    rw [F13L1, if_pos (by simp; omega)]
    simp only
    rw [List.length_reverse, w64_id (n := (l.length : Int) - 1) (by omega) (by omega), w64_id (n := (l.length : Int) - 1 - i) (by omega) (by omega), show (l.length : Int) - 1 - i = ((l.length - 1 - i : Nat) : Int) by omega, idx_nat (by omega), idx_nat (by rw [List.length_reverse]; omega), rev_get l (by omega), show l.length - 1 - (l.length - 1 - i) = i by omega]
    simp only [Option.bind_some]
    rw [if_neg (by simp), w64_nat (by omega)]
    exact ih n (i + 1) (by omega) (by omega)
theorem law13 (r : R) : F13 200 r = some true := by
  unfold F13
  obtain ⟨v, hv1, hv2⟩ := e40 (k := 200) (by omega) r
  rw [hv1, Option.bind_some]
  by_cases hg : Good r
  · have ev : v = true := hv2.2 hg
    have hL := hg.n1
    rw [ev, if_neg (by simp), e47 (by omega) hL, Option.bind_some]
    obtain ⟨a, ha1, ha2⟩ := e18 (k := 200) (by omega) r
    obtain ⟨b, hb1, hb2⟩ := e18 (k := 200) (by omega) (back r)
    rw [ha1, Option.bind_some, show (⟨(back r).Steep, (back r).Points⟩ : R) = back r from rfl, hb1, Option.bind_some]
    have hab : a.2 = b.2 ∧ b.1 = a.1.reverse ∧ a.1.length ≤ 10 := by
      by_cases hs : Some' r.Steep r.Points
      · obtain ⟨k1, k2⟩ := ha2.ok hg hs
        obtain ⟨k3, k4⟩ := hb2.ok (back_good hg) (some_rev hs)
        exact ⟨k1.trans k3.symm, k4.uniq k2.rev, by rw [k2.len]; exact hL⟩
      · rw [ha2.down hg hs, hb2.down (back_good hg) (fun h => hs (some_rev'.1 h))]; exact ⟨rfl, rfl, by simp⟩
    obtain ⟨hab1, hab2, hab3⟩ := hab
    rw [if_neg (by simp [hab1, hab2])]
    have := e13L1 (l := a.1) (x := a.2) (y := b.2) hab3 a.1.length 200 0 (by omega) (by omega)
    rw [show ((0 : Nat) : Int) = 0 from rfl, ← hab2] at this
    rw [this, Option.bind_some, outK_inr]
    obtain ⟨c, c1, c2⟩ := e23 (k := 200) (by omega) r
    obtain ⟨d, d1, d2⟩ := e23 (k := 200) (by omega) (back r)
    obtain ⟨c3, c4⟩ := c2.ok hg
    obtain ⟨d3, d4⟩ := d2.ok (back_good hg)
    rw [c1, Option.bind_some, d1, Option.bind_some, if_neg (by simp [c3, d3, c4.rev.uniq d4])]
    have best : ∀ w, ∃ x y, F36 200 r w = some x ∧ F36 200 (back r) w = some y ∧ x.2.1 = y.2.1 ∧ x.2.2.1 = y.2.2.1 ∧ x.2.2.2 = y.2.2.2 := by
      intro w
      obtain ⟨x, x1, x2⟩ := e36 (k := 200) (by omega) r w
      obtain ⟨y, y1, y2⟩ := e36 (k := 200) (by omega) (back r) w
      exact ⟨x, y, x1, y1, turned_best hg x2 y2⟩
    have hL2 : F13L2 200 r (back r) 200 0 = some (.inr ()) := by
      obtain ⟨x, y, x1, y1, h1, h2, h3⟩ := best false
      obtain ⟨x', y', x1', y1', h1', h2', h3'⟩ := best true
      have w1 : w64 (0 + 1) = 1 := rfl
      have w2 : w64 (1 + 1) = 2 := rfl
      have b0 : ((0 : Int) == 1) = false := rfl
      have b1 : ((1 : Int) == 1) = true := rfl
      rw [F13L2, if_pos (by simp), b0, x1, Option.bind_some, show (⟨(back r).Steep, (back r).Points⟩ : R) = back r from rfl, y1, Option.bind_some, if_neg (by simp [h1, h2, h3]), w1, F13L2, if_pos (by simp), b1, x1', Option.bind_some, show (⟨(back r).Steep, (back r).Points⟩ : R) = back r from rfl, y1', Option.bind_some, if_neg (by simp [h1', h2', h3']), w2, F13L2, if_neg (by simp)]
    rw [hL2, Option.bind_some, outK_inr, awake200]; rfl
  · have ev : v = false := by
      cases v with
      | false => rfl
      | true => exact absurd (hv2.1 rfl) hg
    rw [ev, if_pos (by simp), awake200]; rfl
end Go.Proofs.Ytadejgckgnbaoaa
