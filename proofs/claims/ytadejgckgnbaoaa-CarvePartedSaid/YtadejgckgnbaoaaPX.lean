/- The statements CarveRaised and CarveParted in plain words. -/
import Derived.Test.YtadejgckgnbaoaaPW
import Derived.Test.YtadejgckgnbaoaaDR
import Derived.Test.YtadejgckgnbaoaaDPT
namespace Go.Proofs.Ytadejgckgnbaoaa
open Go Go.Sx
set_option linter.all false

/-- A point whose heights are raised. -/
def rp (n : Int) (p : P) : P := ⟨p.Board + n, p.Lo + n, p.Hi + n⟩
def raise (n : Int) (r : R) : R := ⟨r.Steep, r.Points.map (rp n)⟩
theorem map_get {α β : Type} [Inhabited α] [Inhabited β] (f : α → β) (l : List α) {i : Nat} (h : i < l.length) : (l.map f)[i]! = f l[i]! := by
  rw [getElem!_pos (l.map f) i (by simpa using h), getElem!_pos l i h, List.getElem_map]
theorem raise_some {S n : Int} {ps : List P} : Some' S (ps.map (rp n)) ↔ Some' S ps := by
  constructor
  · intro h a b ha hb
    have := h a b (by simpa using ha) (by simpa using hb)
    rw [map_get _ _ ha, map_get _ _ hb] at this
    simp only [rp] at this; omega
  · intro h a b ha hb
    rw [List.length_map] at ha hb
    have := h a b ha hb
    rw [map_get _ _ ha, map_get _ _ hb]
    simp only [rp]; omega
theorem Bnd.raise {S n : Int} {ps : List P} {l : List Sp} (h : Bnd S ps l) : Bnd S (ps.map (rp n)) (l.map fun s => ⟨s.Lo + n, s.Hi + n⟩) := by
  have hlen := h.len
  refine ⟨by simp [hlen], fun j hj => ?_, fun j hj => ?_⟩
  · rw [List.length_map] at hj
    rw [map_get _ _ (by omega)]
    obtain ⟨k, k1, k2⟩ := (h.lo j hj).is
    refine ⟨fun m hm => ?_, k, by simpa using k1, ?_⟩
    · rw [List.length_map] at hm
      have := (h.lo j hj).ub m hm
      rw [map_get _ _ hm]; simp only [rp]; omega
    · rw [map_get _ _ k1]; simp only [rp]; omega
  · rw [List.length_map] at hj
    rw [map_get _ _ (by omega)]
    obtain ⟨k, k1, k2⟩ := (h.hi j hj).is
    refine ⟨fun m hm => ?_, k, by simpa using k1, ?_⟩
    · rw [List.length_map] at hm
      have := (h.hi j hj).ub m hm
      rw [map_get _ _ hm]; simp only [rp]; omega
    · rw [map_get _ _ k1]; simp only [rp]; omega
def ry (n : Int) (y : Y) : Y := (y.1, y.2.map (· + n))
theorem up_raise : ∀ (k : Nat) (lo n : Int), up (lo + n) k = (up lo k).map (· + n) := by
  intro k
  induction k with
  | zero => intro lo n; rfl
  | succ k ih => intro lo n; rw [up, up, List.map_cons, ← ih, show lo + n + 1 = lo + 1 + n by omega]
theorem pick_raise {w : Bool} {n : Int} (b : Option Y) (y : Y) : pick w (b.map (ry n)) (ry n y) = (pick w b y).map (ry n) := by
  cases b with
  | none => rfl
  | some b =>
    simp only [pick, Option.map_some]
    show (if better w y.1 b.1 = true then some (ry n y) else some (ry n b)) = _
    split <;> rfl
theorem foldl_raise {w : Bool} {n : Int} : ∀ (ys : List Y) (b : Option Y), (ys.map (ry n)).foldl (pick w) (b.map (ry n)) = (ys.foldl (pick w) b).map (ry n) := by
  intro ys
  induction ys with
  | nil => intro b; rfl
  | cons y ys ih => intro b; rw [List.map_cons, List.foldl_cons, List.foldl_cons, pick_raise, ih]
theorem opt_raise {S : Int} {w : Bool} {n : Int} : ∀ (ps : List P) (deep lo hi : Int), opt S w (ps.map (rp n)) deep (lo + n) (hi + n) = (opt S w ps deep lo hi).map (ry n) := by
  intro ps
  induction ps with
  | nil => intro deep lo hi; rfl
  | cons p ps ih =>
    intro deep lo hi
    rw [List.map_cons, opt, opt]
    unfold bestOf
    show ((up (p.Lo + n) (p.Hi + n - (p.Lo + n) + 1).toNat).filterMap (cand (rp n p) deep (lo + n) (hi + n) fun h => opt S w (ps.map (rp n)) (pos ((rp n p).Board - h)) (h - S) (h + S))).foldl (pick w) ((none : Option Y).map (ry n)) = _
    rw [show p.Hi + n - (p.Lo + n) + 1 = p.Hi - p.Lo + 1 by omega, up_raise, List.filterMap_map, ← foldl_raise, List.map_filterMap]
    congr 2
    funext h
    simp only [Function.comp]
    unfold cand
    have e : opt S w (ps.map (rp n)) (pos ((rp n p).Board - (h + n))) (h + n - S) (h + n + S) = (opt S w ps (pos (p.Board - h)) (h - S) (h + S)).map (ry n) := by
      rw [← ih, show (rp n p).Board - (h + n) = p.Board - h by simp only [rp]; omega, show h + n - S = h - S + n by omega, show h + n + S = h + S + n by omega]
    by_cases hc : lo ≤ h ∧ h ≤ hi
    · rw [if_pos (by omega), if_pos hc]
      simp only
      rw [e, Option.map_map, Option.map_map]
      congr 1
      funext q
      simp only [Function.comp, ry, cst, rp, List.map_cons]
      rw [show h + n - (p.Board + n) = h - p.Board by omega, show p.Board + n - (h + n) = p.Board - h by omega]
    · rw [if_neg (by omega), if_neg hc]; rfl
theorem filterMap_eq {α β : Type} {f g : α → Option β} : ∀ {l : List α}, (∀ x ∈ l, f x = g x) → l.filterMap f = l.filterMap g := by
  intro l
  induction l with
  | nil => intro _; rfl
  | cons x l ih => intro h; rw [List.filterMap_cons, List.filterMap_cons, h x (by simp), ih fun y hy => h y (by simp [hy])]
theorem opt_wide {S : Int} {w : Bool} {p : P} {ps : List P} {deep lo hi lo' hi' : Int} (h1 : lo ≤ p.Lo ∧ p.Hi ≤ hi) (h2 : lo' ≤ p.Lo ∧ p.Hi ≤ hi') : opt S w (p :: ps) deep lo hi = opt S w (p :: ps) deep lo' hi' := by
  rw [opt]
  show bestOf w _ = bestOf w _
  refine congrArg (bestOf w) (filterMap_eq fun x hx => ?_)
  rw [mem_up] at hx
  unfold cand
  rw [if_pos (by omega), if_pos (by omega)]
theorem raise_best {r : R} {n : Int} (hg : Good r) (hg' : Good (raise n r)) {w : Bool} {a b : List Int × Int × Int × Int} (ha : ORes r w a) (hb : ORes (raise n r) w b) : a.2.1 = b.2.1 ∧ a.2.2.1 = b.2.2.1 ∧ a.2.2.2 = b.2.2.2 ∧ b.1 = a.1.map (· + n) ∧ a.1.length ≤ 10 ∧ ∀ x ∈ a.1, 0 ≤ x ∧ x ≤ 9000 := by
  by_cases hs : Some' r.Steep r.Points
  · have hs' : Some' (raise n r).Steep (raise n r).Points := raise_some.2 hs
    have hn := ha.len
    have hf := (ha.best hg hs).2.1
    have hx := mem_ok (hf.goodS hg).hgt
    obtain ⟨y, y1, rfl⟩ := ha.ok hg hs
    obtain ⟨z, z1, rfl⟩ := hb.ok hg' hs'
    have hn0 := hg.n0
    have e : opt r.Steep w (raise n r).Points 0 0 9000 = opt r.Steep w (raise n r).Points 0 (0 + n) (9000 + n) := by
      show opt r.Steep w (r.Points.map (rp n)) 0 0 9000 = opt r.Steep w (r.Points.map (rp n)) 0 (0 + n) (9000 + n)
      cases hp : r.Points with
      | nil => rw [hp] at hn0; simp at hn0
      | cons p ps =>
        have h1 := hg.pt p (by rw [hp]; simp)
        have h2 := hg'.pt (rp n p) (by show rp n p ∈ r.Points.map (rp n); rw [hp]; simp)
        simp only [rp] at h2
        rw [List.map_cons]
        exact opt_wide (by simp only [rp]; omega) (by simp only [rp]; omega)
    have z2 : opt r.Steep w (raise n r).Points 0 0 9000 = some z := z1
    rw [e, show (raise n r).Points = r.Points.map (rp n) from rfl, opt_raise, y1] at z2
    obtain rfl := Option.some.inj z2
    exact ⟨rfl, rfl, rfl, rfl, hn, hx⟩
  · have hs' : ¬ Some' (raise n r).Steep (raise n r).Points := fun h => hs (raise_some.1 h)
    rw [ha.down hg hs, hb.down hg' hs']
    exact ⟨rfl, rfl, rfl, rfl, by simp, fun x hx => by cases hx⟩
theorem e14L1 {r : R} (hg : Good r) {by_ n' : Int} (hn' : IntKind.i64.wrap by_ = n') (hb : 0 ≤ n' ∧ n' ≤ 65535) : ∀ (m n i : Nat) (l : List P) (a : Bool), m < n → i + m = r.Points.length → l = (r.Points.take i).map (rp n') → (a = true → ∀ j, j < i → r.Points[j]!.Board > r.Points[j]!.Hi) →
    ∃ a', F14L1 r by_ n (a, i, l) = some (.inr (a', r.Points.map (rp n'))) ∧ (a' = true → ∀ j, j < r.Points.length → r.Points[j]!.Board > r.Points[j]!.Hi) := by
  have hL := hg.n1
  intro m
  induction m with
  | zero =>
    intro n i l a hn hi hl ha
    obtain ⟨n, rfl⟩ : ∃ j, n = j + 1 := ⟨n - 1, by omega⟩
    rw [F14L1, if_neg (by simp; omega)]
    refine ⟨a, ?_, fun h j hj => ha h j (by omega)⟩
    rw [hl, List.take_of_length_le (by omega)]
  | succ m ih =>
    intro n i l a hn hi hl ha
    obtain ⟨n, rfl⟩ : ∃ j, n = j + 1 := ⟨n - 1, by omega⟩
    have hp := hg.pt r.Points[i]! (by rw [getElem!_pos r.Points i (by omega)]; exact List.getElem_mem _)
    rw [F14L1, if_pos (by simp; omega)]
    simp only
    rw [idx_nat (by omega), Option.bind_some, hn', w64_id (n := r.Points[i]!.Board + n') (by omega) (by omega), w64_id (n := r.Points[i]!.Lo + n') (by omega) (by omega), w64_id (n := r.Points[i]!.Hi + n') (by omega) (by omega), need_true (by rw [hl]; simp; omega), Option.bind_some, w64_nat (by omega)]
    refine ih n (i + 1) _ _ (by omega) (by omega) ?_ ?_
    · rw [hl, List.take_succ, List.getElem?_eq_getElem (by omega), List.map_append, getElem!_pos r.Points i (by omega)]
      rfl
    · intro h j hj
      have : a = true ∧ r.Points[i]!.Board > r.Points[i]!.Hi := by
        cases a with
        | true => simpa using h
        | false => simp at h
      by_cases e : j = i
      · rw [e]; exact this.2
      · exact ha this.1 j (by omega)
theorem e14L2 {by_ n' : Int} (hn' : IntKind.i64.wrap by_ = n') (hb : 0 ≤ n' ∧ n' ≤ 65535) {l : List Sp} (hl : l.length ≤ 10) (hx : ∀ i, i < l.length → (-1000000 ≤ l[i]!.Lo ∧ l[i]!.Lo ≤ 1000000) ∧ -1000000 ≤ l[i]!.Hi ∧ l[i]!.Hi ≤ 1000000) {x y : Int} : ∀ (k n i : Nat), k < n → i + k = l.length → F14L2 by_ (l, x) (l.map (fun s => ⟨s.Lo + n', s.Hi + n'⟩), y) n i = some (.inr ()) := by
  intro k
  induction k with
  | zero =>
    intro n i hn hi
    obtain ⟨n, rfl⟩ : ∃ j, n = j + 1 := ⟨n - 1, by omega⟩
    rw [F14L2, if_neg (by simp; omega)]
  | succ k ih =>
    intro n i hn hi
    obtain ⟨n, rfl⟩ : ∃ j, n = j + 1 := ⟨n - 1, by omega⟩
    have := hx i (by omega)
    rw [F14L2, if_pos (by simp; omega)]
    simp only
    rw [idx_nat (by simp; omega), map_get _ _ (by omega), idx_nat (by omega)]
    simp only [Option.bind_some]
    rw [hn', w64_id (n := l[i]!.Lo + n') (by omega) (by omega), w64_id (n := l[i]!.Hi + n') (by omega) (by omega)]
    unfold F48
    rw [Option.bind_some, if_neg (by simp), w64_nat (by omega)]
    exact ih n (i + 1) (by omega) (by omega)
theorem e14L4 {by_ n' : Int} (hn' : IntKind.i64.wrap by_ = n') (hb : 0 ≤ n' ∧ n' ≤ 65535) {l m : List Int} (hm : m = l.map (· + n')) (hl : l.length ≤ 10) (hx : ∀ x ∈ l, 0 ≤ x ∧ x ≤ 9000) {x y : Int × Int × Int} : ∀ (k n i : Nat), k < n → i + k = l.length → F14L4 by_ (l, x) (m, y) n i = some (.inr ()) := by
  subst hm
  intro k
  induction k with
  | zero =>
    intro n i hn hi
    obtain ⟨n, rfl⟩ : ∃ j, n = j + 1 := ⟨n - 1, by omega⟩
    rw [F14L4, if_neg (by simp; omega)]
  | succ k ih =>
    intro n i hn hi
    obtain ⟨n, rfl⟩ : ∃ j, n = j + 1 := ⟨n - 1, by omega⟩
    have := hx l[i]! (by rw [getElem!_pos l i (by omega)]; exact List.getElem_mem _)
    rw [F14L4, if_pos (by simp; omega)]
    simp only
    rw [idx_nat (by simp; omega), map_get _ _ (by omega), idx_nat (by omega)]
    simp only [Option.bind_some]
    rw [hn', w64_id (n := l[i]! + n') (by omega) (by omega), if_neg (by simp), w64_nat (by omega)]
    exact ih n (i + 1) (by omega) (by omega)
theorem fills_above : ∀ (ps : List P) (s : List Int), s.length = ps.length → (∀ i, i < ps.length → s[i]! ≤ ps[i]!.Board) → fills ps s = 0 := by
  intro ps
  induction ps with
  | nil => intro s h _; rw [List.length_eq_zero_iff.1 h]; rfl
  | cons p ps ih =>
    intro s h hb
    cases s with
    | nil => simp at h
    | cons x s =>
      have h0 := hb 0 (by simp)
      rw [cons_get0, cons_get0] at h0
      rw [fills, ih s (by simpa using h) fun i hi => by have := hb (i + 1) (by simpa using hi); rwa [cons_get, cons_get] at this]
      unfold pos; split <;> omega
theorem Bnd.room {S : Int} {ps : List P} {l : List Sp} (h : Bnd S ps l) (hp : Pts S ps) : ∀ m, m < l.length → (-1000000 ≤ l[m]!.Lo ∧ l[m]!.Lo ≤ 1000000) ∧ -1000000 ≤ l[m]!.Hi ∧ l[m]!.Hi ≤ 1000000 := by
  intro m hm
  rw [h.len] at hm
  have h1 := Top.room hp (fun k hk => by have := hp.pt k hk; omega) hm (fun k hk => hk) (h.lo m hm)
  have h2 := Top.room hp (fun k hk => by have := hp.pt k hk; omega) hm (fun k hk => hk) (h.hi m hm)
  omega
theorem law14 (r : R) (by_ : Int) (hb : 0 ≤ by_ ∧ by_ ≤ 65535) : F14 200 r by_ = some true := by
  unfold F14
  obtain ⟨v, hv1, hv2⟩ := e40 (k := 200) (by omega) r
  rw [hv1, Option.bind_some]
  by_cases hg : Good r
  · have ev : v = true := hv2.2 hg
    have hL := hg.n1
    rw [ev, if_neg (by simp)]
    have hn' : IntKind.i64.wrap by_ = by_ := w64_id (by omega) (by omega)
    obtain ⟨ab, g1, g2⟩ := e14L1 hg hn' hb r.Points.length 200 0 [] true (by omega) (by omega) rfl (fun _ j hj => by omega)
    rw [show ((0 : Nat) : Int) = 0 from rfl] at g1
    rw [g1, Option.bind_some, outK_inr]
    obtain ⟨c, c1, c2⟩ := e36 (k := 200) (by omega) r false
    rw [c1, Option.bind_some]
    have hnone : ¬ (cond (cond (c.2.2.2 == 0) ab false) (c.2.1 != 0) false) = true := by
      intro h
      have h1 : c.2.2.2 = 0 ∧ ab = true ∧ c.2.1 ≠ 0 := by
        revert h
        by_cases e1 : c.2.2.2 = 0
        · cases ab with
          | true => simp [e1]
          | false => simp [e1]
        · simp [e1]
      obtain ⟨h1, h2, h3⟩ := h1
      by_cases hs : Some' r.Steep r.Points
      · obtain ⟨a1, a2, a3, a4, a5⟩ := c2.best hg hs
        rw [a3] at h3
        exact h3 (fills_above _ _ a2.len fun i hi => by have := a2.bnd i hi; have := g2 h2 i hi; omega)
      · rw [c2.down hg hs] at h1; simp at h1
    rw [if_neg hnone]
    simp only
    obtain ⟨u, hu1, hu2⟩ := e40 (k := 200) (by omega) (raise by_ r)
    rw [show (⟨r.Steep, r.Points.map (rp by_)⟩ : R) = raise by_ r from rfl, hu1, Option.bind_some]
    by_cases hg' : Good (raise by_ r)
    · rw [hu2.2 hg', if_neg (by simp)]
      obtain ⟨a, ha1, ha2⟩ := e18 (k := 200) (by omega) r
      obtain ⟨b, hb1, hb2⟩ := e18 (k := 200) (by omega) (raise by_ r)
      rw [ha1, Option.bind_some, hb1, Option.bind_some]
      have hab : a.2 = b.2 ∧ b.1 = a.1.map (fun s => ⟨s.Lo + by_, s.Hi + by_⟩) ∧ a.1.length ≤ 10 ∧ ∀ i, i < a.1.length → (-1000000 ≤ a.1[i]!.Lo ∧ a.1[i]!.Lo ≤ 1000000) ∧ -1000000 ≤ a.1[i]!.Hi ∧ a.1[i]!.Hi ≤ 1000000 := by
        by_cases hs : Some' r.Steep r.Points
        · obtain ⟨k1, k2⟩ := ha2.ok hg hs
          obtain ⟨k3, k4⟩ := hb2.ok hg' (raise_some.2 hs)
          exact ⟨k1.trans k3.symm, k4.uniq k2.raise, by rw [k2.len]; exact hL, k2.room hg.pts⟩
        · rw [ha2.down hg hs, hb2.down hg' (fun h => hs (raise_some.1 h))]; exact ⟨rfl, rfl, by simp, fun i hi => by simp at hi⟩
      obtain ⟨hab1, hab2, hab3, hab4⟩ := hab
      rw [if_neg (by simp [hab1, hab2])]
      have := e14L2 hn' hb hab3 hab4 (x := a.2) (y := b.2) a.1.length 200 0 (by omega) (by omega)
      rw [show ((0 : Nat) : Int) = 0 from rfl, ← hab2] at this
      rw [this, Option.bind_some, outK_inr]
      have best : ∀ w, ∃ x y, F36 200 r w = some x ∧ F36 200 (raise by_ r) w = some y ∧ x.2.1 = y.2.1 ∧ x.2.2.1 = y.2.2.1 ∧ x.2.2.2 = y.2.2.2 ∧ x.1.length = y.1.length ∧ F14L4 by_ x y 200 0 = some (.inr ()) := by
        intro w
        obtain ⟨x, x1, x2⟩ := e36 (k := 200) (by omega) r w
        obtain ⟨y, y1, y2⟩ := e36 (k := 200) (by omega) (raise by_ r) w
        obtain ⟨t1, t2, t3, t4, t5, t6⟩ := raise_best hg hg' x2 y2
        have := e14L4 hn' hb t4 t5 t6 (x := x.2) (y := y.2) x.1.length 200 0 (by omega) (by omega)
        rw [show ((0 : Nat) : Int) = 0 from rfl] at this
        exact ⟨x, y, x1, y1, t1, t2, t3, by simp [t4], this⟩
      have hL3 : F14L3 200 r by_ (ab, r.Points.map (rp by_)) 200 0 = some (.inr ()) := by
        obtain ⟨x, y, x1, y1, h1, h2, h3, h4, h5⟩ := best false
        obtain ⟨x', y', x1', y1', h1', h2', h3', h4', h5'⟩ := best true
        have w1 : w64 (0 + 1) = 1 := rfl
        have w2 : w64 (1 + 1) = 2 := rfl
        have b0 : ((0 : Int) == 1) = false := rfl
        have b1 : ((1 : Int) == 1) = true := rfl
        rw [F14L3, if_pos (by simp), b0, x1, Option.bind_some, show (⟨r.Steep, (ab, r.Points.map (rp by_)).2⟩ : R) = raise by_ r from rfl, y1, Option.bind_some, if_neg (by simp [h1, h2, h3, h4]), h5, Option.bind_some, outK_inr, w1, F14L3, if_pos (by simp), b1, x1', Option.bind_some, show (⟨r.Steep, (ab, r.Points.map (rp by_)).2⟩ : R) = raise by_ r from rfl, y1', Option.bind_some, if_neg (by simp [h1', h2', h3', h4']), h5', Option.bind_some, outK_inr, w2, F14L3, if_neg (by simp)]
      rw [hL3, Option.bind_some, outK_inr, awake200]; rfl
    · have : u = false := by
        cases u with
        | false => rfl
        | true => exact absurd (hu2.1 rfl) hg'
      rw [this, if_pos (by simp), awake200]; rfl
  · have ev : v = false := by
      cases v with
      | false => rfl
      | true => exact absurd (hv2.1 rfl) hg
    rw [ev, if_pos (by simp), awake200]; rfl

/-- The row with just one height at a point. -/
def just (r : R) (i : Nat) (n : Int) : R := ⟨r.Steep, r.Points.set i ⟨r.Points[i]!.Board, n, n⟩⟩
theorem far_split (S : Int) {a i b : Nat} (h1 : a ≤ i) (h2 : i ≤ b) : far S a b = far S a i + far S i b := by
  unfold far
  rw [← Int.mul_add]
  congr 1
  unfold dist
  rw [if_pos (by omega), if_pos h1, if_pos h2]
  omega
theorem fills_app : ∀ (ps qs : List P) (s t : List Int), s.length = ps.length → fills (ps ++ qs) (s ++ t) = fills ps s + fills qs t := by
  intro ps
  induction ps with
  | nil => intro qs s t h; rw [List.length_eq_zero_iff.1 h]; simp [fills]
  | cons p ps ih =>
    intro qs s t h
    cases s with
    | nil => simp at h
    | cons x s => rw [List.cons_append, List.cons_append, fills, fills, ih qs s t (by simpa using h)]; omega
theorem take_bang {α : Type} [Inhabited α] {l : List α} {i : Nat} (h : i < l.length) : l.take (i + 1) = l.take i ++ [l[i]!] := by
  rw [List.take_succ, List.getElem?_eq_getElem h, getElem!_pos l i h]; rfl
theorem fills_cut {ps : List P} {s : List Int} (h : s.length = ps.length) {i : Nat} (hi : i < ps.length) : fills ps s = fills (ps.take (i + 1)) (s.take (i + 1)) + fills (ps.drop i) (s.drop i) - pos (s[i]! - ps[i]!.Board) := by
  have e1 := fills_app (ps.take i) (ps.drop i) (s.take i) (s.drop i) (by simp [h])
  rw [List.take_append_drop, List.take_append_drop] at e1
  have e2 := fills_snoc (ps.take i) (s.take i) ps[i]! s[i]! (by simp [h])
  rw [← take_bang hi, ← take_bang (by omega)] at e2
  omega
section
variable {ps : List P} {S : Int} {i : Nat} {n : Int}
theorem Good.take {r : R} (h : Good r) {i : Nat} (hi : i < r.Points.length) : Good ⟨r.Steep, r.Points.take (i + 1)⟩ := by
  have := h.n1
  exact ⟨h.s0, h.s1, by simp only [List.length_take]; omega, by simp only [List.length_take]; omega, fun p hp => h.pt p (List.mem_of_mem_take hp)⟩
theorem Good.drop {r : R} (h : Good r) {i : Nat} (hi : i < r.Points.length) : Good ⟨r.Steep, r.Points.drop i⟩ := by
  have := h.n1
  exact ⟨h.s0, h.s1, by simp only [List.length_drop]; omega, by simp only [List.length_drop]; omega, fun p hp => h.pt p (List.mem_of_mem_drop hp)⟩
theorem Fine.take {r : R} {s : List Int} (h : Fine r s) {i : Nat} (hi : i < r.Points.length) : Fine ⟨r.Steep, r.Points.take (i + 1)⟩ (s.take (i + 1)) := by
  have hl := h.len
  refine ⟨by simp [hl], fun j hj => ?_, fun j hj => ?_⟩
  · simp only [List.length_take] at hj
    simp only
    rw [take_get _ (by omega), take_get _ (by omega)]; exact h.bnd j (by omega)
  · simp only [List.length_take] at hj
    rw [take_get _ (by omega), take_get _ (by omega)]; exact h.step j (by omega)
theorem Fine.drop {r : R} {s : List Int} (h : Fine r s) {i : Nat} (hi : i < r.Points.length) : Fine ⟨r.Steep, r.Points.drop i⟩ (s.drop i) := by
  have hl := h.len
  refine ⟨by simp [hl], fun j hj => ?_, fun j hj => ?_⟩
  · simp only [List.length_drop] at hj
    simp only
    rw [drop_get, drop_get]; exact h.bnd _ (by omega)
  · simp only [List.length_drop] at hj
    rw [drop_get, drop_get]
    have := h.step (i + j) (by omega)
    rw [show i + j + 1 = i + (j + 1) by omega] at this; exact this
/-- Two surfaces that meet. -/
theorem Fine.join {r : R} {i : Nat} (hi : i < r.Points.length) {s t : List Int} (hs : Fine ⟨r.Steep, r.Points.take (i + 1)⟩ s) (ht : Fine ⟨r.Steep, r.Points.drop i⟩ t) (hm : s[i]! = t[0]!) : Fine r (s.take i ++ t) ∧ (s.take i ++ t).take (i + 1) = s ∧ (s.take i ++ t).drop i = t := by
  have l1 := hs.len
  have l2 := ht.len
  simp only [List.length_take] at l1
  simp only [List.length_drop] at l2
  have hget : ∀ j, j < r.Points.length → (s.take i ++ t)[j]! = if j < i then s[j]! else t[j - i]! := by
    intro j hj
    by_cases h : j < i
    · rw [if_pos h, getElem!_pos _ j (by simp; omega), List.getElem_append_left (by simp; omega), getElem!_pos s j (by omega), List.getElem_take]
    · rw [if_neg h, getElem!_pos _ j (by simp; omega), List.getElem_append_right (by simp; omega), getElem!_pos t (j - i) (by omega)]
      congr 1
      simp; omega
  refine ⟨⟨by simp; omega, fun j hj => ?_, fun j hj => ?_⟩, ?_, ?_⟩
  · rw [hget j hj]
    by_cases h : j < i
    · rw [if_pos h]
      have := hs.bnd j (by simp only [List.length_take]; omega)
      simp only at this
      rwa [take_get _ (by omega)] at this
    · rw [if_neg h]
      have := ht.bnd (j - i) (by simp only [List.length_drop]; omega)
      simp only at this
      rwa [drop_get, show i + (j - i) = j by omega] at this
  · rw [hget j (by omega), hget (j + 1) hj]
    by_cases h : j + 1 < i
    · rw [if_pos (by omega), if_pos h]
      exact hs.step j (by simp only [List.length_take]; omega)
    · by_cases h' : j < i
      · rw [if_pos h', if_neg h]
        have := hs.step j (by simp only [List.length_take]; omega)
        rw [show j + 1 = i by omega, hm] at this
        rw [show j + 1 - i = 0 by omega]; exact this
      · rw [if_neg h', if_neg h]
        have := ht.step (j - i) (by simp only [List.length_drop]; omega)
        rw [show j - i + 1 = j + 1 - i by omega] at this; exact this
  · have e : s.take i ++ t = s.take i ++ t[0]! :: t.drop 1 := by
      have := drop_bang (l := t) (i := 0) (by omega)
      rw [List.drop_zero] at this
      rw [← this]
    have e2 : (s.take i ++ t[0]! :: t.drop 1).take (i + 1) = s.take i ++ [t[0]!] := by
      have hl : (s.take i ++ [t[0]!]).length = i + 1 := by simp; omega
      rw [show s.take i ++ t[0]! :: t.drop 1 = (s.take i ++ [t[0]!]) ++ t.drop 1 by simp, List.take_left' hl]
    rw [e, e2, ← hm, ← take_bang (by omega), List.take_of_length_le (by omega)]
  · rw [List.drop_left' (by simp; omega)]
end
theorem law15 (r : R) (which : S__2quint8) (h0 : 0 ≤ which.e0 ∧ which.e0 ≤ 255) (h1 : 0 ≤ which.e1 ∧ which.e1 ≤ 255) : F15 200 r which = some true := by
  unfold F15
  obtain ⟨v, hv1, hv2⟩ := e40 (k := 200) (by omega) r
  rw [hv1, Option.bind_some]
  by_cases hg : Good r
  · have ev : v = true := hv2.2 hg
    have hL := hg.n1
    have hL0 := hg.n0
    rw [ev, if_neg (by simp), need_true (by omega), Option.bind_some, need_true (by simp; omega), Option.bind_some]
    rw [show IntKind.i64.wrap which.e0 = w64 which.e0 from rfl, w64_id (n := which.e0) (by omega) (by omega), show IntKind.i64.wrap which.e1 = w64 which.e1 from rfl, w64_id (n := which.e1) (by omega) (by omega)]
    have hi0 := tmod_room h0.1 (show 0 < (r.Points.length : Int) by omega)
    obtain ⟨i, hi⟩ : ∃ i : Nat, which.e0.tmod (r.Points.length : Int) = (i : Int) := ⟨(which.e0.tmod (r.Points.length : Int)).toNat, by omega⟩
    rw [hi] at hi0 ⊢
    have hil : i < r.Points.length := by omega
    have hp := hg.pt r.Points[i]! (by rw [getElem!_pos r.Points i hil]; exact List.getElem_mem _)
    rw [idx_nat hil, Option.bind_some, w64_id (n := r.Points[i]!.Hi - r.Points[i]!.Lo) (by omega) (by omega), w64_id (n := r.Points[i]!.Hi - r.Points[i]!.Lo + 1) (by omega) (by omega), need_true (by omega), Option.bind_some]
    have ht := tmod_room h1.1 (show 0 < r.Points[i]!.Hi - r.Points[i]!.Lo + 1 by omega)
    rw [w64_id (n := r.Points[i]!.Lo + which.e1.tmod (r.Points[i]!.Hi - r.Points[i]!.Lo + 1)) (by omega) (by omega)]
    obtain ⟨n, hn⟩ : ∃ n, n = r.Points[i]!.Lo + which.e1.tmod (r.Points[i]!.Hi - r.Points[i]!.Lo + 1) := ⟨_, rfl⟩
    rw [← hn, List.nil_append, Int.toNat_natCast, idx_nat hil, Option.bind_some, idx_nat (by rw [List.length_set]; exact hil), Option.bind_some, getb_set _ _ _ _ hil, if_pos rfl]
    simp only [List.set_set]
    have hjl : (r.Points.set i (⟨r.Points[i]!.Board, n, n⟩ : P)).length = r.Points.length := by rw [List.length_set]
    rw [w64_nat (by omega), sub_take (by omega) (by rw [hjl]; omega), Option.bind_some, sub_drop (by omega) (by rw [hjl]; omega) (by omega), Option.bind_some, Int.toNat_natCast, Int.toNat_natCast]
    have e0 : ((r.Points.set i (⟨r.Points[i]!.Board, n, n⟩ : P)).drop i).take (((r.Points.set i (⟨r.Points[i]!.Board, n, n⟩ : P)).length : Int) - (i : Int)).toNat = (r.Points.set i (⟨r.Points[i]!.Board, n, n⟩ : P)).drop i := by
      rw [List.take_of_length_le]; rw [List.length_drop]; omega
    rw [e0]
    have hgj : Good (just r i n) := by
      refine ⟨hg.s0, hg.s1, by simp only [just]; omega, by simp only [just]; omega, fun p hp' => ?_⟩
      rcases List.mem_or_eq_of_mem_set hp' with h | h
      · exact hg.pt p h
      · rw [h]; simp only; omega
    have hpj : (just r i n).Points[i]! = ⟨r.Points[i]!.Board, n, n⟩ := by
      unfold just; simp only; rw [getb_set _ _ _ _ hil, if_pos rfl]
    have hij : i < (just r i n).Points.length := by unfold just; simp only; omega
    obtain ⟨a, a1, a2⟩ := e36 (k := 200) (by omega) (just r i n) false
    obtain ⟨b, b1, b2⟩ := e36 (k := 200) (by omega) ⟨r.Steep, (just r i n).Points.take (i + 1)⟩ false
    obtain ⟨c, c1, c2⟩ := e36 (k := 200) (by omega) ⟨r.Steep, (just r i n).Points.drop i⟩ false
    have hgl := hgj.take hij
    have hgr := hgj.drop hij
    rw [show (⟨r.Steep, r.Points.set i (⟨r.Points[i]!.Board, n, n⟩ : P)⟩ : R) = just r i n from rfl, show r.Points.set i (⟨r.Points[i]!.Board, n, n⟩ : P) = (just r i n).Points from rfl, a1, Option.bind_some, b1, Option.bind_some, c1, Option.bind_some]
    have hpts := hgj.pts
    have hsl : Some' r.Steep ((just r i n).Points.take (i + 1)) ↔ ∀ p q, 0 ≤ p → p ≤ q → q < 0 + (i + 1) → noneB r.Steep (just r i n).Points p q = false := by
      have := some_cut (S := r.Steep) (ps := (just r i n).Points) (a := 0) (m := i + 1) (by omega)
      rwa [List.drop_zero] at this
    have hsr : Some' r.Steep ((just r i n).Points.drop i) ↔ ∀ p q, i ≤ p → p ≤ q → q < i + ((just r i n).Points.length - i) → noneB r.Steep (just r i n).Points p q = false := by
      have := some_cut (S := r.Steep) (ps := (just r i n).Points) (a := i) (m := (just r i n).Points.length - i) (by omega)
      rwa [List.take_of_length_le (by rw [List.length_drop]; omega)] at this
    by_cases hs : Some' r.Steep (just r i n).Points
    · have sl : Some' r.Steep ((just r i n).Points.take (i + 1)) := hsl.2 fun p q _ h2 h3 => some'_iff.1 hs p q h2 (by omega)
      have sr : Some' r.Steep ((just r i n).Points.drop i) := hsr.2 fun p q h1 h2 h3 => some'_iff.1 hs p q h2 (by omega)
      obtain ⟨x1, x2, x3, x4, x5⟩ := a2.best hgj hs
      obtain ⟨y1, y2, y3, y4, y5⟩ := b2.best hgl sl
      obtain ⟨z1, z2, z3, z4, z5⟩ := c2.best hgr sr
      have xi := x2.bnd i hij
      have yi := y2.bnd i (by simp only [List.length_take]; omega)
      have zi := z2.bnd 0 (by simp only [List.length_drop]; omega)
      simp only at yi zi
      rw [take_get _ (by omega), hpj] at yi
      rw [drop_get, Nat.add_zero, hpj] at zi
      rw [hpj] at xi
      simp only at xi yi zi
      have hm : b.1[i]! = c.1[0]! := by omega
      have hlen := x2.len
      have s1 := y5 _ (x2.take hij)
      have s2 := z5 _ (x2.drop hij)
      obtain ⟨j1, j2, j3⟩ := Fine.join hij y2 z2 hm
      have s3 := x5 _ j1
      have t1 := better_le0 s1
      have t2 := better_le0 s2
      have t3 := better_le0 s3
      have f1 := fills_cut hlen hij
      have f2 := fills_cut j1.len hij
      have gi : (b.1.take i ++ c.1)[i]! = n := by
        have := j1.bnd i hij
        rw [hpj] at this
        simp only at this
        omega
      have xin : a.1[i]! = n := by omega
      rw [gi, hpj, j2, j3] at f2
      rw [xin, hpj] at f1
      simp only at t1 t2 t3 f1 f2 y3 z3
      have r1 := cost_room (S := r.Steep) _ 0 0 9000 b.1 ⟨hgl.pt⟩ (by omega) ((fit_fine hgl).2 y2)
      have r2 := cost_room (S := r.Steep) _ 0 0 9000 c.1 ⟨hgr.pt⟩ (by omega) ((fit_fine hgr).2 z2)
      rw [cost_eq] at r1 r2
      simp only [List.length_take, List.length_drop] at r1 r2
      have hjp : (just r i n).Points.length = r.Points.length := hjl
      have p0 := pos_nonneg (n - r.Points[i]!.Board)
      have p1 := pos_le (n := n - r.Points[i]!.Board) (m := 9000) (by omega) (by omega)
      have key : a.2.1 = b.2.1 + c.2.1 - pos (n - r.Points[i]!.Board) := by omega
      rw [x1, y1, z1, if_neg (by simp)]
      have ew : w64 (w64 (b.2.1 + c.2.1) - (if w64 (n - r.Points[i]!.Board) > 0 then w64 (n - r.Points[i]!.Board) else 0)) = b.2.1 + c.2.1 - pos (n - r.Points[i]!.Board) := by
        rw [w64_id (n := n - r.Points[i]!.Board) (by omega) (by omega), w64_id (n := b.2.1 + c.2.1) (by omega) (by omega)]
        change w64 (b.2.1 + c.2.1 - pos (n - r.Points[i]!.Board)) = _
        rw [w64_id (by omega) (by omega)]
      rw [ew, key]
      simp only [beq_self_eq_true, cond_true, optG_true, awake200, Option.bind_some]
    · have hor : ¬ Some' r.Steep ((just r i n).Points.take (i + 1)) ∨ ¬ Some' r.Steep ((just r i n).Points.drop i) := by
        by_cases sl : Some' r.Steep ((just r i n).Points.take (i + 1))
        · refine .inr fun sr => hs ?_
          rw [some'_iff]
          intro p q hpq hq
          by_cases hq' : q ≤ i
          · exact hsl.1 sl p q (Nat.zero_le _) hpq (by omega)
          · by_cases hp' : i ≤ p
            · exact hsr.1 sr p q hp' hpq (by omega)
            · have k1 := hsl.1 sl p i (Nat.zero_le _) (by omega) (by omega)
              have k2 := hsr.1 sr i q (Nat.le_refl _) (by omega) (by omega)
              have k3 := far_split r.Steep (a := p) (i := i) (b := q) (by omega) (by omega)
              unfold noneB at k1 k2 ⊢
              rw [hpj] at k1 k2
              simp only [Bool.or_eq_false_iff, decide_eq_false_iff_not] at k1 k2 ⊢
              omega
        · exact .inl sl
      have x := a2.down hgj hs
      have y : b.2.2.2 = 0 ∨ b.2.2.2 = 9 := by
        by_cases sl : Some' r.Steep ((just r i n).Points.take (i + 1))
        · exact .inl (b2.best hgl sl).1
        · exact .inr (by rw [b2.down hgl sl])
      have z : c.2.2.2 = 0 ∨ c.2.2.2 = 9 := by
        by_cases sr : Some' r.Steep ((just r i n).Points.drop i)
        · exact .inl (c2.best hgr sr).1
        · exact .inr (by rw [c2.down hgr sr])
      have yz : b.2.2.2 = 9 ∨ c.2.2.2 = 9 := by
        rcases hor with h | h
        · exact .inl (by rw [b2.down hgl h])
        · exact .inr (by rw [c2.down hgr h])
      rw [x, if_pos (by simp)]
      rcases y with y | y <;> rcases z with z | z <;> rw [y, z] at yz ⊢
      · omega
      · simp [awake200, optG]
      · simp [awake200, optG]
      · simp [awake200, optG]
  · have ev : v = false := by
      cases v with
      | false => rfl
      | true => exact absurd (hv2.1 rfl) hg
    rw [ev, if_pos (by simp), awake200]; rfl
end Go.Proofs.Ytadejgckgnbaoaa
