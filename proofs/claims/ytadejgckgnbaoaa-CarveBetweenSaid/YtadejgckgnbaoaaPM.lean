/- What Passes comes to, in plain words. -/
import Derived.Test.YtadejgckgnbaoaaPK
namespace Go.Proofs.Ytadejgckgnbaoaa
open Go Go.Sx
set_option linter.all false

abbrev CP := S_api_CvPass
/-- By how much a surface is carved. -/
def depths : List P → List Int → List Int
  | p :: ps, x :: s => pos (p.Board - x) :: depths ps s
  | _, _ => []
/-- How many passes depths need. -/
def manyL : Int → List Int → Int
  | _, [] => 0
  | e, d :: ds => pos (d - e) + manyL d ds
theorem depths_len : ∀ (ps : List P) (s : List Int), s.length = ps.length → (depths ps s).length = ps.length := by
  intro ps
  induction ps with
  | nil => intro s h; simp [depths]
  | cons p ps ih =>
    intro s h
    cases s with
    | nil => simp at h
    | cons x s => rw [depths, List.length_cons, List.length_cons, ih s (by simpa using h)]
theorem depths_room : ∀ (ps : List P) (s : List Int), (∀ p ∈ ps, 0 ≤ p.Board ∧ p.Board ≤ 9000) → (∀ x ∈ s, 0 ≤ x ∧ x ≤ 9000) → ∀ d ∈ depths ps s, 0 ≤ d ∧ d ≤ 9000 := by
  intro ps
  induction ps with
  | nil => intro s _ _ d h; simp [depths] at h
  | cons p ps ih =>
    intro s hp hs d hd
    cases s with
    | nil => simp [depths] at hd
    | cons x s =>
      rw [depths, List.mem_cons] at hd
      rcases hd with rfl | hd
      · have := hp p (by simp)
        have := hs x (by simp)
        exact ⟨pos_nonneg _, pos_le (by omega) (by omega)⟩
      · exact ih s (fun q hq => hp q (by simp [hq])) (fun y hy => hs y (by simp [hy])) d hd
theorem many_room : ∀ (ds : List Int) (e : Int), (∀ d ∈ ds, 0 ≤ d ∧ d ≤ 9000) → 0 ≤ e → 0 ≤ manyL e ds ∧ manyL e ds ≤ 9000 * ds.length := by
  intro ds
  induction ds with
  | nil => intro e _ _; simp [manyL]
  | cons d ds ih =>
    intro e hd he
    have h0 := hd d (by simp)
    have := ih d (fun x hx => hd x (by simp [hx])) h0.1
    have h1 := pos_nonneg (d - e)
    have h2 := pos_le (n := d - e) (m := 9000) (by omega) (by omega)
    rw [manyL, List.length_cons]
    omega
theorem GoodS.deep {r : R} {s : List Int} (h : GoodS r s) : ∀ d ∈ depths r.Points s, 0 ≤ d ∧ d ≤ 9000 :=
  depths_room _ _ (fun p hp => (h.good.pt p hp).1) (mem_ok h.hgt)
theorem GoodS.dlen {r : R} {s : List Int} (h : GoodS r s) : (depths r.Points s).length = r.Points.length := depths_len _ _ h.len
theorem depths_drop : ∀ (i : Nat) (ps : List P) (s : List Int), depths (ps.drop i) (s.drop i) = (depths ps s).drop i := by
  intro i
  induction i with
  | zero => intro ps s; simp
  | succ i ih =>
    intro ps s
    cases ps with
    | nil => simp [depths]
    | cons p ps =>
      cases s with
      | nil => simp [depths, List.drop_nil]
      | cons x s => rw [depths, List.drop_succ_cons, List.drop_succ_cons, List.drop_succ_cons, ih]

theorem e44L1 {ds : List Int} (hd : ∀ d ∈ ds, 0 ≤ d ∧ d ≤ 9000) (hl : ds.length ≤ 10) : ∀ (m n i : Nat) (a e : Int), m < n → i + m = ds.length → 0 ≤ a → a ≤ 100000 * i → 0 ≤ e → e ≤ 9000 → F44L1 ds n (a, e, i) = some (.inr (a + manyL e (ds.drop i))) := by
  intro m
  induction m with
  | zero =>
    intro n i a e hn hi h0 h1 h2 h3
    obtain ⟨n, rfl⟩ : ∃ j, n = j + 1 := ⟨n - 1, by omega⟩
    rw [F44L1, if_neg (by simp; omega), List.drop_of_length_le (by omega)]; simp [manyL]
  | succ m ih =>
    intro n i a e hn hi h0 h1 h2 h3
    obtain ⟨n, rfl⟩ : ∃ j, n = j + 1 := ⟨n - 1, by omega⟩
    have hx := hd ds[i]! (by rw [getElem!_pos ds i (by omega)]; exact List.getElem_mem _)
    rw [F44L1, if_pos (by simp; omega)]
    simp only
    rw [idx_nat (by omega), Option.bind_some, Option.bind_some, w64_nat (by omega), w64_id (n := ds[i]! - e) (by omega) (by omega)]
    have h5 := pos_nonneg (ds[i]! - e)
    have h6 := pos_le (n := ds[i]! - e) (m := 9000) (by omega) (by omega)
    change F44L1 ds n (w64 (a + pos (ds[i]! - e)), _, _) = _
    rw [w64_id (by omega) (by omega), ih n (i + 1) (a + pos (ds[i]! - e)) ds[i]! (by omega) (by omega) (by omega) (by omega) (by omega) (by omega), drop_bang (l := ds) (i := i) (by omega), manyL]
    congr 2; omega
theorem e44 {k : Nat} (hk : 20 ≤ k) {ds : List Int} (hd : ∀ d ∈ ds, 0 ≤ d ∧ d ≤ 9000) (hl : ds.length ≤ 10) : F44 k ds = some (manyL 0 ds) := by
  unfold F44
  have := e44L1 hd hl ds.length k 0 0 0 (by omega) (by omega) (by omega) (by omega) (by omega) (by omega)
  rw [show ((0 : Nat) : Int) = 0 from rfl] at this
  rw [this, Option.bind_some, outK_inr]
  simp
theorem e45L1 {r : R} {s : List Int} (h : GoodS r s) : ∀ (m n i : Nat) (l : List Int), m < n → i + m = s.length → l.length = i → F45L1 r s n (i, l) = some (.inr (l ++ depths (r.Points.drop i) (s.drop i))) := by
  have hlen := h.len
  have hL := h.good.n1
  intro m
  induction m with
  | zero =>
    intro n i l hn hi hl
    obtain ⟨n, rfl⟩ : ∃ j, n = j + 1 := ⟨n - 1, by omega⟩
    rw [F45L1, if_neg (by simp; omega), List.drop_of_length_le (by omega)]; simp [depths]
  | succ m ih =>
    intro n i l hn hi hl
    obtain ⟨n, rfl⟩ : ∃ j, n = j + 1 := ⟨n - 1, by omega⟩
    have hx := h.hgt i (by omega)
    have hp := h.pt (i := i) (by omega)
    rw [F45L1, if_pos (by simp; omega)]
    simp only
    rw [idx_nat (by omega), Option.bind_some, idx_nat (by omega), Option.bind_some, w64_nat (by omega), w64_id (n := r.Points[i]!.Board - s[i]!) (by omega) (by omega), need_true (by simp; omega), Option.bind_some]
    rw [ih n (i + 1) _ (by omega) (by omega) (by simp [hl]), drop_bang (l := r.Points) (i := i) (by omega), drop_bang (l := s) (i := i) (by omega), depths, List.append_assoc]
    rfl
theorem e45 {k : Nat} (hk : 20 ≤ k) {r : R} {s : List Int} (h : GoodS r s) : F45 k r s = some (depths r.Points s) := by
  unfold F45
  have := e45L1 h s.length k 0 [] (by have := h.len; have := h.good.n1; omega) (by omega) rfl
  rw [show ((0 : Nat) : Int) = 0 from rfl] at this
  rw [this]
  simp [outK]

theorem set_mid {α : Type} (pre : List α) (x y : α) (suf : List α) (i : Nat) (h : i = pre.length) : (pre ++ x :: suf).set i y = pre ++ y :: suf := by
  subst h; simp
theorem e30L1 {r : R} {s : List Int} (h : GoodS r s) : ∀ (m n i : Nat) (a e : Int) (D : List Int), m < n → i + m = s.length → D.length = i → 0 ≤ a → a ≤ 100000 * i → 0 ≤ e → e ≤ 9000 →
    F30L1 s (⟨r⟩, 0) n (a, e, i, D ++ List.replicate (m + 1) 0) = some (.inr (a + manyL e (depths (r.Points.drop i) (s.drop i)), D ++ depths (r.Points.drop i) (s.drop i) ++ [0])) := by
  have hlen := h.len
  have hL := h.good.n1
  intro m
  induction m with
  | zero =>
    intro n i a e D hn hi hD h0 h1 h2 h3
    obtain ⟨n, rfl⟩ : ∃ j, n = j + 1 := ⟨n - 1, by omega⟩
    rw [F30L1, if_neg (by simp; omega), List.drop_of_length_le (l := r.Points) (by omega)]; simp [depths, manyL]
  | succ m ih =>
    intro n i a e D hn hi hD h0 h1 h2 h3
    obtain ⟨n, rfl⟩ : ∃ j, n = j + 1 := ⟨n - 1, by omega⟩
    have hx := h.hgt i (by omega)
    have hp := h.pt (i := i) (by omega)
    have g1 := pos_nonneg (r.Points[i]!.Board - s[i]!)
    have g2 := pos_le (n := r.Points[i]!.Board - s[i]!) (m := 9000) (by omega) (by omega)
    have h5 := pos_nonneg (pos (r.Points[i]!.Board - s[i]!) - e)
    have h6 := pos_le (n := pos (r.Points[i]!.Board - s[i]!) - e) (m := 9000) (by omega) (by omega)
    rw [F30L1, if_pos (by simp; omega)]
    simp only
    rw [idx_nat (by omega), Option.bind_some, idx_nat (by omega), Option.bind_some, w64_nat (by omega), w64_id (n := r.Points[i]!.Board - s[i]!) (by omega) (by omega), List.replicate_succ, idx_mid (by omega), Option.bind_some, Int.toNat_natCast]
    rw [set_mid _ _ _ _ _ hD.symm, idx_mid (by omega), Option.bind_some, Option.bind_some]
    change F30L1 s (⟨r⟩, 0) n (w64 (a + if w64 (pos (r.Points[i]!.Board - s[i]!) - e) > 0 then w64 (pos (r.Points[i]!.Board - s[i]!) - e) else 0), pos (r.Points[i]!.Board - s[i]!), _, D ++ pos (r.Points[i]!.Board - s[i]!) :: List.replicate (m + 1) 0) = _
    rw [w64_id (n := pos (r.Points[i]!.Board - s[i]!) - e) (by omega) (by omega)]
    change F30L1 s (⟨r⟩, 0) n (w64 (a + pos (pos (r.Points[i]!.Board - s[i]!) - e)), pos (r.Points[i]!.Board - s[i]!), _, D ++ pos (r.Points[i]!.Board - s[i]!) :: List.replicate (m + 1) 0) = _
    have := ih n (i + 1) (a + pos (pos (r.Points[i]!.Board - s[i]!) - e)) (pos (r.Points[i]!.Board - s[i]!)) (D ++ [pos (r.Points[i]!.Board - s[i]!)]) (by omega) (by omega) (by simp [hD]) (by omega) (by omega) (by omega) (by omega)
    rw [List.append_assoc, List.singleton_append] at this
    rw [w64_id (by omega) (by omega), this, drop_bang (l := r.Points) (i := i) (by omega), drop_bang (l := s) (i := i) (by omega), depths, manyL]
    congr 3
    · omega
    · simp

/-- The greatest of some numbers. -/
def mx : List Int → Int → Int
  | [], a => a
  | x :: l, a => mx l (if x > a then x else a)
theorem e62L1 {l : List Int} (hl : l.length < 2 ^ 62) : ∀ (m n i : Nat) (a : Int), m < n → i + m = l.length → F62L1 l n (a, i) = some (.inr (mx (l.drop i) a)) := by
  intro m
  induction m with
  | zero =>
    intro n i a hn hi
    obtain ⟨n, rfl⟩ : ∃ j, n = j + 1 := ⟨n - 1, by omega⟩
    rw [F62L1, if_neg (by simp; omega), List.drop_of_length_le (by omega)]; rfl
  | succ m ih =>
    intro n i a hn hi
    obtain ⟨n, rfl⟩ : ∃ j, n = j + 1 := ⟨n - 1, by omega⟩
    rw [F62L1, if_pos (by simp; omega)]
    simp only
    rw [idx_nat (by omega), Option.bind_some, w64_nat (by omega), ih n (i + 1) _ (by omega) (by omega), drop_bang (l := l) (i := i) (by omega), mx]
theorem e62 {k : Nat} {x : Int} {l : List Int} (hk : l.length + 1 < k) (hl : l.length < 2 ^ 61) : F62 k (x :: l) = some (mx l x) := by
  unfold F62
  rw [if_neg (by simp; omega), show idx (x :: l) 0 = some x from rfl, Option.bind_some]
  have := e62L1 (l := x :: l) (by simp; omega) l.length k 1 x (by omega) (by simp; omega)
  rw [show ((1 : Nat) : Int) = 1 from rfl] at this
  rw [this]
  rfl
theorem mx_spec : ∀ (l : List Int) (a : Int), (mx l a = a ∨ mx l a ∈ l) ∧ a ≤ mx l a ∧ ∀ x ∈ l, x ≤ mx l a := by
  intro l
  induction l with
  | nil => intro a; exact ⟨.inl rfl, Int.le_refl _, fun x h => by cases h⟩
  | cons x l ih =>
    intro a
    rw [mx]
    obtain ⟨h1, h2, h3⟩ := ih (if x > a then x else a)
    have hb1 : a ≤ (if x > a then x else a) := by split <;> omega
    have hb2 : x ≤ (if x > a then x else a) := by split <;> omega
    refine ⟨?_, ?_, fun y hy => ?_⟩
    · rcases h1 with h1 | h1
      · rw [h1]
        split
        · exact .inr (by simp)
        · exact .inl rfl
      · exact .inr (by simp [h1])
    · omega
    · rcases List.mem_cons.1 hy with rfl | hy
      · omega
      · exact h3 y hy

/-- Stretches that are as deep as v, as carve finds them. -/
def runs (v : Int) : List Int → Int → Int → List CP
  | [], _, _ => []
  | d :: ds, i, f => if d ≥ v ∧ f < 0 then runs v ds (i + 1) i else if d < v ∧ f ≥ 0 then ⟨f, i - 1⟩ :: runs v ds (i + 1) (-1) else runs v ds (i + 1) f
def lead (v : Int) : List Int → Int
  | [] => 0
  | d :: ds => if d ≥ v then 1 + lead v ds else 0
/-- The same, as the reference finds them. -/
def rruns (v : Int) : List Int → Int → Bool → List CP
  | [], _, _ => []
  | d :: ds, i, b => if d < v ∨ b = true then rruns v ds (i + 1) (decide (d ≥ v)) else ⟨i, i + lead v ds⟩ :: rruns v ds (i + 1) true
theorem runs_eq {v : Int} (hv : 1 ≤ v) : ∀ (ds : List Int) (i : Int), 0 ≤ i → runs v (ds ++ [0]) i (-1) = rruns v ds i false ∧ ∀ f, 0 ≤ f → runs v (ds ++ [0]) i f = ⟨f, i - 1 + lead v ds⟩ :: rruns v ds i true := by
  intro ds
  induction ds with
  | nil =>
    intro i hi
    constructor
    · rw [List.nil_append, runs, if_neg (by omega), if_neg (by omega)]; rfl
    · intro f hf
      rw [List.nil_append, runs, if_neg (by omega), if_pos (by omega)]
      simp [runs, rruns, lead]
  | cons d ds ih =>
    intro i hi
    obtain ⟨h1, h2⟩ := ih (i + 1) (by omega)
    rw [List.cons_append]
    constructor
    · rw [runs, rruns]
      by_cases h : d ≥ v
      · rw [if_pos ⟨h, by omega⟩, if_neg (by simp; omega), h2 i hi]
        congr 2; omega
      · rw [if_neg (by omega), if_neg (by omega), if_pos (by omega), h1]
        congr 1; simpa using h
    · intro f hf
      rw [runs, rruns, lead]
      by_cases h : d ≥ v
      · rw [if_neg (by omega), if_neg (by omega), if_pos (show d < v ∨ true = true from .inr rfl), if_pos h, h2 f hf]
        have e : decide (d ≥ v) = true := by simpa using h
        rw [e]
        congr 2; omega
      · rw [if_neg (by omega), if_pos (by omega), if_pos (show d < v ∨ true = true from .inr rfl), if_neg h, h1]
        have e : decide (d ≥ v) = false := by simpa using h
        rw [e]
        congr 2; omega
/-- Those of some levels. -/
def lvls (ds : List Int) : Nat → Int → List CP
  | 0, _ => []
  | c + 1, v => rruns v ds 0 false ++ lvls ds c (v + 1)
theorem rruns_len : ∀ (v : Int) (ds : List Int) (i : Int) (b : Bool), (rruns v ds i b).length ≤ ds.length := by
  intro v ds
  induction ds with
  | nil => intro i b; simp [rruns]
  | cons d ds ih =>
    intro i b
    rw [rruns]
    split
    · have := ih (i + 1) (decide (d ≥ v)); simp only [List.length_cons]; omega
    · have := ih (i + 1) true; simp only [List.length_cons]; omega
/-- The depths down to some level. -/
def upto (m : Int) (ds : List Int) : List Int := ds.map fun d => min d m
theorem many_step {m : Int} : ∀ (ds : List Int) (i e : Int), manyL (min e m) (upto m ds) + (rruns (m + 1) ds i (decide (e ≥ m + 1))).length = manyL (min e (m + 1)) (upto (m + 1) ds) := by
  intro ds
  induction ds with
  | nil => intro i e; simp [upto, manyL, rruns]
  | cons d ds ih =>
    intro i e
    have h := ih (i + 1) d
    simp only [upto] at h
    rw [rruns]
    simp only [upto, List.map_cons, manyL]
    by_cases h1 : d < m + 1 ∨ decide (e ≥ m + 1) = true
    · rw [if_pos h1]
      have : pos (min d m - min e m) = pos (min d (m + 1) - min e (m + 1)) := by
        simp only [decide_eq_true_eq] at h1
        unfold pos; split <;> split <;> omega
      omega
    · rw [if_neg h1]
      simp only [decide_eq_true_eq] at h1
      have e1 : decide (d ≥ m + 1) = true := by simp only [decide_eq_true_eq]; omega
      rw [e1] at h
      have : pos (min d m - min e m) + 1 = pos (min d (m + 1) - min e (m + 1)) := by
        unfold pos; split <;> split <;> omega
      simp only [List.length_cons]
      omega
theorem many_le {m : Int} : ∀ (ds : List Int) (e : Int), manyL (min e m) (upto m ds) ≤ manyL e ds := by
  intro ds
  induction ds with
  | nil => intro e; simp [upto, manyL]
  | cons d ds ih =>
    intro e
    have h := ih d
    simp only [upto] at h
    simp only [upto, List.map_cons, manyL]
    have : pos (min d m - min e m) ≤ pos (d - e) := by
      unfold pos; split <;> split <;> omega
    omega
theorem upto_id {m : Int} {ds : List Int} (h : ∀ d ∈ ds, d ≤ m) : upto m ds = ds := by
  unfold upto
  conv => rhs; rw [← List.map_id ds]
  apply List.map_congr_left
  intro d hd
  have := h d hd
  simp only [id]; omega
theorem rruns_ne {v : Int} : ∀ (ds : List Int) (i : Int), (∃ d ∈ ds, d ≥ v) → 1 ≤ (rruns v ds i false).length := by
  intro ds
  induction ds with
  | nil => rintro i ⟨d, h, _⟩; cases h
  | cons d ds ih =>
    rintro i ⟨x, hx, hv⟩
    rw [rruns]
    by_cases h : d < v
    · rw [if_pos (.inl h)]
      have e : decide (d ≥ v) = false := by simp; omega
      rw [e]
      rcases List.mem_cons.1 hx with rfl | hx
      · omega
      · exact ih (i + 1) ⟨x, hx, hv⟩
    · rw [if_neg (by simp; omega)]; simp
theorem le_many : ∀ (ds : List Int) (e : Int), ∀ d ∈ ds, d ≤ e + manyL e ds := by
  intro ds
  induction ds with
  | nil => intro e d h; cases h
  | cons x ds ih =>
    intro e d hd
    rw [manyL]
    have h1 : x ≤ e + pos (x - e) := by unfold pos; split <;> omega
    have h2 : ∀ (ds : List Int) (e : Int), 0 ≤ manyL e ds := by
      intro ds
      induction ds with
      | nil => intro e; simp [manyL]
      | cons y ds ih => intro e; have := ih y; have := pos_nonneg (y - e); rw [manyL]; omega
    rcases List.mem_cons.1 hd with rfl | hd
    · have := h2 ds d; omega
    · have := ih x d hd; omega

theorem e30L3 {ds : List Int} (hl : ds.length ≤ 20) {b : Int} {lv : Int} (hlv : 0 ≤ lv) (l0 : List CP) : ∀ (m n i : Nat) (f : Int) (l : List CP), m < n → i + m = ds.length → (f = -1 ∨ (0 ≤ f ∧ f < i)) → l.length + m ≤ 10000 →
    F30L3 (b, ds) (lv, l0) n (f, i, l) = some (.inr (l ++ runs (lv + 1) (ds.drop i) i f)) := by
  intro m
  induction m with
  | zero =>
    intro n i f l hn hi hf hll
    obtain ⟨n, rfl⟩ : ∃ j, n = j + 1 := ⟨n - 1, by omega⟩
    rw [F30L3, if_neg (by simp; omega), List.drop_of_length_le (by omega)]; simp [runs]
  | succ m ih =>
    intro n i f l hn hi hf hll
    obtain ⟨n, rfl⟩ : ∃ j, n = j + 1 := ⟨n - 1, by omega⟩
    rw [F30L3, if_pos (by simp; omega)]
    simp only
    rw [idx_nat (by omega), Option.bind_some, w64_nat (by omega), drop_bang (l := ds) (i := i) (by omega), runs]
    have ec : ((i + 1 : Nat) : Int) = (i : Int) + 1 := by omega
    by_cases h1 : ds[i]! > lv
    · have e1 : decide (ds[i]! > lv) = true := by simpa using h1
      have e2 : decide (ds[i]! ≤ lv) = false := by simp only [decide_eq_false_iff_not]; omega
      rw [e1, e2]
      simp only [cond_true, cond_false, Bool.false_eq_true, if_false]
      by_cases h2 : f < 0
      · rw [if_pos (by simpa using h2), if_pos ⟨by omega, h2⟩]
        have := ih n (i + 1) i l (by omega) (by omega) (by omega) (by omega)
        rw [ec] at this ⊢
        exact this
      · rw [if_neg (by simpa using h2), if_neg (by omega), if_neg (by omega)]
        have := ih n (i + 1) f l (by omega) (by omega) (by omega) (by omega)
        rw [ec] at this ⊢
        exact this
    · have e1 : decide (ds[i]! > lv) = false := by simpa using h1
      have e2 : decide (ds[i]! ≤ lv) = true := by simp only [decide_eq_true_eq]; omega
      rw [e1, e2]
      simp only [cond_true, cond_false, Bool.false_eq_true, if_false]
      by_cases h2 : f ≥ 0
      · rw [if_pos (by simpa using h2), if_neg (by omega), if_pos ⟨by omega, h2⟩, w64_id (n := (i : Int) - 1) (by omega) (by omega), need_true (by simp; omega), Option.bind_some]
        have := ih n (i + 1) (-1) (l ++ [⟨f, (i : Int) - 1⟩]) (by omega) (by omega) (by omega) (by simp; omega)
        rw [ec] at this ⊢
        rw [this, List.append_assoc]
        rfl
      · rw [if_neg (by simpa using h2), if_neg (by omega), if_neg (by omega)]
        have := ih n (i + 1) f l (by omega) (by omega) (by omega) (by omega)
        rw [ec] at this ⊢
        exact this
theorem e30L2 {ds : List Int} (hl : ds.length ≤ 10) {k : Nat} (hk : 30 ≤ k) {b : Int} {M : Int} : ∀ (c n : Nat) (lv : Int) (l : List CP), c < n → lv + c = M → 0 ≤ lv → M ≤ 100 → l.length ≤ 20 * lv →
    F30L2 k (b, ds ++ [0]) M n (lv, l) = some (.inr (l ++ lvls ds c (lv + 1))) := by
  intro c
  induction c with
  | zero =>
    intro n lv l hn hm h0 h1 h2
    obtain ⟨n, rfl⟩ : ∃ j, n = j + 1 := ⟨n - 1, by omega⟩
    rw [F30L2, if_neg (by simp; omega)]; simp [lvls]
  | succ c ih =>
    intro n lv l hn hm h0 h1 h2
    obtain ⟨n, rfl⟩ : ∃ j, n = j + 1 := ⟨n - 1, by omega⟩
    rw [F30L2, if_pos (by simp; omega)]
    simp only
    have := e30L3 (ds := ds ++ [0]) (by simp; omega) (b := b) h0 l (ds.length + 1) k 0 (-1) l (by omega) (by simp) (by omega) (by omega)
    rw [show ((0 : Nat) : Int) = 0 from rfl, List.drop_zero] at this
    rw [this, Option.bind_some, outK_inr, (runs_eq (v := lv + 1) (by omega) ds 0 (by omega)).1, w64_id (by omega) (by omega)]
    have hrl := rruns_len (lv + 1) ds 0 false
    rw [ih n (lv + 1) _ (by omega) (by omega) (by omega) h1 (by simp only [List.length_append]; omega), lvls, List.append_assoc]

theorem e31L3 {ds : List Int} (hl : ds.length ≤ 20) {v : Int} (l0 : List CP) : ∀ (m n i : Nat), m < n → i + m + 1 = ds.length → F31L3 ds (v, l0) n i = some (.inr ((i : Int) + lead v (ds.drop (i + 1)))) := by
  intro m
  induction m with
  | zero =>
    intro n i hn hi
    obtain ⟨n, rfl⟩ : ∃ j, n = j + 1 := ⟨n - 1, by omega⟩
    rw [F31L3, w64_nat (by omega)]
    have e : decide (((i + 1 : Nat) : Int) < (ds.length : Int)) = false := by simp only [decide_eq_false_iff_not]; omega
    rw [e]
    simp only [optG_false, Option.bind_some, cond_false, Bool.false_eq_true, if_false]
    rw [List.drop_of_length_le (by omega)]; simp [lead]
  | succ m ih =>
    intro n i hn hi
    obtain ⟨n, rfl⟩ : ∃ j, n = j + 1 := ⟨n - 1, by omega⟩
    rw [F31L3, w64_nat (by omega)]
    have e : decide (((i + 1 : Nat) : Int) < (ds.length : Int)) = true := by simp only [decide_eq_true_eq]; omega
    rw [e]
    simp only [optG_true, cond_true]
    rw [idx_nat (by omega), Option.bind_some, drop_bang (l := ds) (i := i + 1) (by omega), lead]
    by_cases h : ds[i + 1]! ≥ v
    · rw [if_pos (by simpa only [decide_eq_true_eq] using h), if_pos h, ih n (i + 1) (by omega) (by omega)]
      congr 2; omega
    · rw [if_neg (by simpa only [decide_eq_true_eq] using h), if_neg h]; simp
theorem e31L2 {ds : List Int} (hl : ds.length ≤ 10) {k : Nat} (hk : 30 ≤ k) {v : Int} (l0 : List CP) : ∀ (m n i : Nat) (l : List CP), m < n → i + m = ds.length → l.length + m ≤ 10000 →
    F31L2 k ds (v, l0) n (i, l) = some (.inr (l ++ rruns v (ds.drop i) i (decide (0 < i) && decide (ds[i - 1]! ≥ v)))) := by
  intro m
  induction m with
  | zero =>
    intro n i l hn hi hll
    obtain ⟨n, rfl⟩ : ∃ j, n = j + 1 := ⟨n - 1, by omega⟩
    rw [F31L2, if_neg (by simp; omega), List.drop_of_length_le (by omega)]; simp [rruns]
  | succ m ih =>
    intro n i l hn hi hll
    obtain ⟨n, rfl⟩ : ∃ j, n = j + 1 := ⟨n - 1, by omega⟩
    rw [F31L2, if_pos (by simp; omega)]
    simp only
    rw [idx_nat (by omega), Option.bind_some, w64_nat (by omega)]
    have ec : ((i + 1 : Nat) : Int) = (i : Int) + 1 := by omega
    have nxt := fun l h => ih n (i + 1) l (by omega) (by omega) h
    have ed : decide (0 < i + 1) = true := by simp
    rw [ed, Bool.true_and, Nat.add_sub_cancel, ec] at nxt
    rw [ec, drop_bang (l := ds) (i := i) (by omega), rruns]
    by_cases h1 : ds[i]! < v
    · have e1 : decide (ds[i]! < v) = true := by simpa using h1
      rw [e1]
      simp only [Bool.not_true, Bool.false_and, optG_false, Option.bind_some, cond_true, if_true]
      rw [if_pos (.inl h1)]
      exact nxt l (by omega)
    · have e1 : decide (ds[i]! < v) = false := by simpa using h1
      rw [e1]
      simp only [Bool.not_false, Bool.true_and, cond_false]
      have key : ∃ x, optG (decide ((i : Int) > 0)) (idx ds (w64 ((i : Int) - 1))) = some x ∧ (cond (decide ((i : Int) > 0)) (decide (x ≥ v)) false) = (decide (0 < i) && decide (ds[i - 1]! ≥ v)) := by
        by_cases h3 : 0 < i
        · have e : decide ((i : Int) > 0) = true := by simp only [decide_eq_true_eq]; omega
          have e' : decide (0 < i) = true := by simpa using h3
          rw [e, e', w64_pred h3 (by omega), optG_true, idx_nat (by omega)]
          exact ⟨_, rfl, rfl⟩
        · have e : decide ((i : Int) > 0) = false := by simp only [decide_eq_false_iff_not]; omega
          have e' : decide (0 < i) = false := by simpa using h3
          rw [e, e', optG_false]
          exact ⟨_, rfl, rfl⟩
      obtain ⟨x, hx, hb⟩ := key
      rw [hx, Option.bind_some, hb]
      cases hc : (decide (0 < i) && decide (ds[i - 1]! ≥ v)) with
      | true =>
        rw [if_pos rfl, if_pos (.inr rfl)]
        exact nxt l (by omega)
      | false =>
        rw [if_neg (by simp), if_neg (fun h => h.elim h1 (fun h => by cases h)), e31L3 (by omega) l0 m k i (by omega) (by omega), Option.bind_some, outK_inr, need_true (by simp; omega), Option.bind_some]
        have e2 : decide (ds[i]! ≥ v) = true := by simp only [decide_eq_true_eq]; omega
        rw [e2] at nxt
        rw [nxt _ (by simp; omega), List.append_assoc]
        rfl
theorem e31L1 {ds : List Int} (hd : ∀ d ∈ ds, 0 ≤ d ∧ d ≤ 9000) (hl : ds.length ≤ 10) (hM : manyL 0 ds ≤ 60) {M : Int} (hmx : M = mx (ds ++ [0]) 0) {k : Nat} (hk : 30 ≤ k) : ∀ (c n : Nat) (v : Int) (l : List CP), c < n → v + c = M + 1 → 1 ≤ v → (l.length : Int) = manyL 0 (upto (v - 1) ds) →
    F31L1 k ds n (v, l) = some (.inr (l ++ lvls ds c v)) := by
  obtain ⟨m1, m2, m3⟩ := mx_spec (ds ++ [0]) 0
  rw [← hmx] at m1 m2 m3
  have hmax : ∀ d ∈ ds, d ≤ M := fun d hd => m3 d (by simp [hd])
  intro c
  induction c with
  | zero =>
    intro n v l hn hv h1 hlen
    obtain ⟨n, rfl⟩ : ∃ j, n = j + 1 := ⟨n - 1, by omega⟩
    rw [upto_id (fun d hd => by have := hmax d hd; omega)] at hlen
    rw [F31L1, e44 (by omega) hd hl, Option.bind_some, if_neg (by simp; omega)]; simp [lvls]
  | succ c ih =>
    intro n v l hn hv h1 hlen
    obtain ⟨n, rfl⟩ : ∃ j, n = j + 1 := ⟨n - 1, by omega⟩
    have hex : ∃ d ∈ ds, d ≥ v := by
      rcases m1 with m1 | m1
      · omega
      · rw [List.mem_append] at m1
        rcases m1 with m1 | m1
        · exact ⟨M, m1, by omega⟩
        · simp at m1; omega
    have hne := rruns_ne ds 0 hex
    have hst := many_step (m := v - 1) ds 0 0
    rw [show v - 1 + 1 = v by omega, show min 0 (v - 1) = 0 by omega, show min 0 v = 0 by omega] at hst
    have e0 : decide ((0 : Int) ≥ v) = false := by simp only [decide_eq_false_iff_not]; omega
    rw [e0] at hst
    have hle := many_le (m := v) ds 0
    rw [show min 0 v = 0 by omega] at hle
    rw [F31L1, e44 (by omega) hd hl, Option.bind_some, if_pos (by simp; omega)]
    have := e31L2 hl hk (v := v) l ds.length k 0 l (by omega) (by omega) (by omega)
    rw [show ((0 : Nat) : Int) = 0 from rfl, List.drop_zero] at this
    have hvM : v ≤ 61 := by
      obtain ⟨d, hd1, hd2⟩ := hex
      have := le_many ds 0 d hd1
      omega
    simp only
    rw [this, Option.bind_some, outK_inr, w64_id (by omega) (by omega)]
    simp only [Nat.lt_irrefl, decide_false, Bool.false_and]
    rw [ih n (v + 1) _ (by omega) (by omega) (by omega) (by rw [List.length_append, show v + 1 - 1 = v by omega]; omega), lvls, List.append_assoc]
theorem mx_app (ds : List Int) (a : Int) : mx (ds ++ [0]) a = mx ds a ∨ True := .inr trivial

/-- The passes of a surface. -/
def passL (r : R) (s : List Int) : List CP := lvls (depths r.Points s) (mx (depths r.Points s ++ [0]) 0).toNat 1
/-- What Passes returns. -/
def passR (r : R) (s : List Int) : List CP × Int :=
  if surfE r s != 0 then ([], surfE r s) else if manyL 0 (depths r.Points s) > 60 then ([], 9) else (passL r s, 0)
theorem upto0 {ds : List Int} (hd : ∀ d ∈ ds, 0 ≤ d ∧ d ≤ 9000) : manyL 0 (upto 0 ds) = 0 := by
  have : ∀ (ds : List Int), (∀ d ∈ ds, 0 ≤ d ∧ d ≤ 9000) → manyL 0 (upto 0 ds) = 0 := by
    intro ds
    induction ds with
    | nil => intro _; rfl
    | cons d ds ih =>
      intro h
      have h0 := h d (by simp)
      have := ih fun x hx => h x (by simp [hx])
      simp only [upto] at this
      simp only [upto, List.map_cons, manyL]
      rw [show min d 0 = 0 by omega, this]
      simp [pos]
  exact this ds hd
theorem e31 {k : Nat} (hk : 100 ≤ k) (r : R) (s : List Int) : F31 k r s = some (passR r s) := by
  unfold F31 passR
  rw [e60 (by omega), Option.bind_some]
  rcases surfE_spec r s with ⟨h3, h4⟩ | ⟨h3, h4⟩
  · have hL := h4.good.n1
    have hd := h4.deep
    have hdl := h4.dlen
    rw [h3, if_neg (by simp), if_neg (by simp), e45 (by omega) h4, Option.bind_some, e44 (by omega) hd (by omega), Option.bind_some]
    by_cases hm : manyL 0 (depths r.Points s) > 60
    · rw [if_pos (by simpa using hm), if_pos hm]
    · rw [if_neg (by simpa using hm), if_neg hm]
      obtain ⟨m1, m2, m3⟩ := mx_spec (depths r.Points s ++ [0]) 0
      have hM : mx (depths r.Points s ++ [0]) 0 ≤ 60 := by
        rcases m1 with m1 | m1
        · omega
        · rw [List.mem_append] at m1
          rcases m1 with m1 | m1
          · have := le_many _ 0 _ m1; omega
          · simp at m1; omega
      have := e31L1 hd (by omega) (by omega) rfl (k := k) (by omega) (mx (depths r.Points s ++ [0]) 0).toNat k 1 [] (by omega) (by omega) (by omega) (by rw [show (1 : Int) - 1 = 0 by omega, upto0 hd]; rfl)
      rw [this]
      rfl
  · rw [if_pos (by simpa using h3), if_pos (by simpa using h3)]
theorem e30 {k : Nat} (hk : 100 ≤ k) (r : R) (s : List Int) : F30 k r s = some (passR r s) := by
  unfold F30 passR
  obtain ⟨x, h1, h2⟩ := e59 (k := k) (by omega) r s
  rw [h1, Option.bind_some]
  simp only
  rcases surfE_spec r s with ⟨h3, h4⟩ | ⟨h3, h4⟩
  · have hL := h4.good.n1
    have hlen := h4.len
    have hd := h4.deep
    have hdl := h4.dlen
    rw [h3, h2 h4, if_neg (by simp), if_neg (by simp)]
    rw [w64_nat (by omega), need_true (by omega), Option.bind_some, Int.toNat_natCast]
    have e1 := e30L1 h4 s.length k 0 0 0 [] (by omega) (by omega) rfl (by omega) (by omega) (by omega) (by omega)
    rw [show ((0 : Nat) : Int) = 0 from rfl, hlen, List.drop_zero, List.drop_zero, List.nil_append, List.nil_append, Int.zero_add] at e1
    rw [e1, Option.bind_some, outK_inr]
    simp only
    by_cases hm : manyL 0 (depths r.Points s) > 60
    · rw [if_pos (by simpa using hm), if_pos hm]
    · rw [if_neg (by simpa using hm), if_neg hm]
      have hmx : ∃ M, F62 k (depths r.Points s ++ [0]) = some M ∧ M = mx (depths r.Points s ++ [0]) 0 := by
        cases hds : depths r.Points s with
        | nil => rw [hds] at hdl; simp at hdl; have := h4.good.n0; omega
        | cons d ds =>
          rw [hds] at hdl
          simp only [List.length_cons] at hdl
          rw [List.cons_append, e62 (by simp; omega) (by simp; omega)]
          refine ⟨_, rfl, ?_⟩
          rw [mx]
          have := hd d (by rw [hds]; simp)
          split
          · rfl
          · rw [show d = 0 by omega]
      obtain ⟨M, hM1, hM2⟩ := hmx
      obtain ⟨m1, m2, m3⟩ := mx_spec (depths r.Points s ++ [0]) 0
      have hM : mx (depths r.Points s ++ [0]) 0 ≤ 60 := by
        rcases m1 with m1 | m1
        · omega
        · rw [List.mem_append] at m1
          rcases m1 with m1 | m1
          · have := le_many _ 0 _ m1; omega
          · simp at m1; omega
      rw [hM1, Option.bind_some, e30L2 (by omega) (by omega) M.toNat k 0 [] (by omega) (by omega) (by omega) (by omega) (by simp)]
      rw [Option.bind_some, outK_inr, hM2, passL]
      rfl
  · rw [if_pos (by simpa using h3), if_pos (by simpa using h3)]
end Go.Proofs.Ytadejgckgnbaoaa
