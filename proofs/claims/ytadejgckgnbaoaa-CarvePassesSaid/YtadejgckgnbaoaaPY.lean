/- The statement CarvePasses in plain words. -/
import Derived.Test.YtadejgckgnbaoaaPO
import Derived.Test.YtadejgckgnbaoaaDPS
namespace Go.Proofs.Ytadejgckgnbaoaa
open Go Go.Sx
set_option linter.all false

theorem e30v1L1 : @F30v1L1 = @F30L1 := by
  funext a x n c
  induction n generalizing c with
  | zero => rfl
  | succ n ih => rw [F30v1L1, F30L1]; simp only [ih]
theorem e30v1L3 : @F30v1L3 = @F30L3 := by
  funext a x n c
  induction n generalizing c with
  | zero => rfl
  | succ n ih => rw [F30v1L3, F30L3]; simp only [ih]
theorem e30v1L2 : @F30v1L2 = @F30L2 := by
  funext k a x n c
  induction n generalizing c with
  | zero => rfl
  | succ n ih => rw [F30v1L2, F30L2]; simp only [ih, e30v1L3]
theorem e30v1 : @F30v1 = @F30 := by
  funext k r s
  unfold F30v1 F30
  rw [e30v1L1, e30v1L2]
  rfl

/-- Passes of a row. -/
theorem e46L1 {r : R} (hg : Good r) {x : List Int} (hx : ∀ n ∈ x, 0 ≤ n ∧ n ≤ 255) : ∀ (m n : Nat) (l : List CP), m < n → l.length + m = 60 → (∀ p ∈ l, PassOk r.Points.length p) →
    ∃ l', F46L1 r x n (((2 * l.length : Nat) : Int), l) = some (.inr l') ∧ l'.length ≤ 60 ∧ ∀ p ∈ l', PassOk r.Points.length p := by
  have hL := hg.n1
  have hL0 := hg.n0
  intro m
  induction m with
  | zero =>
    intro n l hn hl h
    obtain ⟨n, rfl⟩ : ∃ j, n = j + 1 := ⟨n - 1, by omega⟩
    rw [F46L1]
    have e : decide ((l.length : Int) < 60) = false := by simp only [decide_eq_false_iff_not]; omega
    simp only
    rw [e, if_neg (by simp)]
    exact ⟨l, rfl, by omega, h⟩
  | succ m ih =>
    intro n l hn hl h
    obtain ⟨n, rfl⟩ : ∃ j, n = j + 1 := ⟨n - 1, by omega⟩
    rw [F46L1]
    simp only
    rw [w64_nat (by omega)]
    by_cases hc : 2 * l.length + 1 < x.length
    · have e1 : decide (((2 * l.length + 1 : Nat) : Int) < (x.length : Int)) = true := by simp only [decide_eq_true_eq]; omega
      have e2 : decide ((l.length : Int) < 60) = true := by simp only [decide_eq_true_eq]; omega
      rw [e1, e2, if_pos (by simp), idx_nat (by omega), Option.bind_some, need_true (by omega), Option.bind_some, idx_nat (by omega), Option.bind_some]
      have b1 := hx x[2 * l.length]! (by rw [getElem!_pos x _ (by omega)]; exact List.getElem_mem _)
      have b2 := hx x[2 * l.length + 1]! (by rw [getElem!_pos x _ (by omega)]; exact List.getElem_mem _)
      rw [show IntKind.i64.wrap x[2 * l.length]! = w64 x[2 * l.length]! from rfl, w64_id (n := x[2 * l.length]!) (by omega) (by omega), show IntKind.i64.wrap x[2 * l.length + 1]! = w64 x[2 * l.length + 1]! from rfl, w64_id (n := x[2 * l.length + 1]!) (by omega) (by omega)]
      have t1 := tmod_room b1.1 (show 0 < (r.Points.length : Int) by omega)
      rw [w64_id (n := (r.Points.length : Int) - x[2 * l.length]!.tmod (r.Points.length : Int)) (by omega) (by omega)]
      have t2 := tmod_room b2.1 (show 0 < (r.Points.length : Int) - x[2 * l.length]!.tmod (r.Points.length : Int) by omega)
      rw [need_true (by omega), Option.bind_some]
      unfold F58
      rw [Option.bind_some, w64_id (n := x[2 * l.length]!.tmod (r.Points.length : Int) + x[2 * l.length + 1]!.tmod ((r.Points.length : Int) - x[2 * l.length]!.tmod (r.Points.length : Int))) (by omega) (by omega), need_true (by simp; omega), Option.bind_some, w64_id (by omega) (by omega)]
      have := ih n (l ++ [⟨x[2 * l.length]!.tmod (r.Points.length : Int), x[2 * l.length]!.tmod (r.Points.length : Int) + x[2 * l.length + 1]!.tmod ((r.Points.length : Int) - x[2 * l.length]!.tmod (r.Points.length : Int))⟩]) (by omega) (by simp; omega) (fun p hp => by
        rw [List.mem_append] at hp
        rcases hp with hp | hp
        · exact h p hp
        · rw [List.mem_singleton] at hp
          subst hp
          unfold PassOk
          simp only
          omega)
      rw [show ((2 * (l ++ [(⟨x[2 * l.length]!.tmod (r.Points.length : Int), x[2 * l.length]!.tmod (r.Points.length : Int) + x[2 * l.length + 1]!.tmod ((r.Points.length : Int) - x[2 * l.length]!.tmod (r.Points.length : Int))⟩ : CP)]).length : Nat) : Int) = ((2 * l.length : Nat) : Int) + 2 by simp; omega] at this
      exact this
    · have e1 : decide (((2 * l.length + 1 : Nat) : Int) < (x.length : Int)) = false := by simp only [decide_eq_false_iff_not]; omega
      rw [e1, if_neg (by simp)]
      exact ⟨l, rfl, by omega, h⟩
theorem e46 {k : Nat} (hk : 100 ≤ k) {r : R} (hg : Good r) {x : List Int} (hx : ∀ n ∈ x, 0 ≤ n ∧ n ≤ 255) : ∃ l, F46 k r x = some l ∧ l.length ≤ 60 ∧ ∀ p ∈ l, PassOk r.Points.length p := by
  unfold F46
  obtain ⟨l, h1, h2⟩ := e46L1 hg hx 60 k [] (by omega) (by simp) (fun p hp => by cases hp)
  rw [show ((2 * ([] : List CP).length : Nat) : Int) = 0 from rfl] at h1
  rw [h1]
  exact ⟨l, rfl, h2⟩

/-- The board that is high enough. -/
def lb (d : Int) (p : P) : P := ⟨if p.Board > d then p.Board else d, p.Lo, p.Hi⟩
theorem e10L1 {r : R} (hg : Good r) {deep : List Int} (hd : deep.length = r.Points.length) (hr : ∀ i, i < deep.length → 0 ≤ deep[i]! ∧ deep[i]! ≤ 60) : ∀ (m n i : Nat) (ps : List P) (s : List Int), m < n → i + m = deep.length → ps.length = r.Points.length → s.length = i →
    (∀ j, j < r.Points.length → ps[j]! = if j < i then lb deep[j]! r.Points[j]! else r.Points[j]!) → (∀ j, j < i → s[j]! = (lb deep[j]! r.Points[j]!).Board - deep[j]!) →
    ∃ ps' s', F10L1 r (deep, 0) n (i, ps, s) = some (.inr (ps', s')) ∧ ps'.length = r.Points.length ∧ s'.length = r.Points.length ∧ (∀ j, j < r.Points.length → ps'[j]! = lb deep[j]! r.Points[j]!) ∧ ∀ j, j < r.Points.length → s'[j]! = (lb deep[j]! r.Points[j]!).Board - deep[j]! := by
  have hL := hg.n1
  intro m
  induction m with
  | zero =>
    intro n i ps s hn hi hps hs h1 h2
    obtain ⟨n, rfl⟩ : ∃ j, n = j + 1 := ⟨n - 1, by omega⟩
    rw [F10L1, if_neg (by simp; omega)]
    exact ⟨ps, s, rfl, hps, by omega, fun j hj => by rw [h1 j hj, if_pos (by omega)], fun j hj => h2 j (by omega)⟩
  | succ m ih =>
    intro n i ps s hn hi hps hs h1 h2
    obtain ⟨n, rfl⟩ : ∃ j, n = j + 1 := ⟨n - 1, by omega⟩
    have hdi := hr i (by omega)
    have hp := hg.pt r.Points[i]! (by rw [getElem!_pos r.Points i (by omega)]; exact List.getElem_mem _)
    have hpi := h1 i (by omega)
    rw [if_neg (by omega)] at hpi
    rw [F10L1, if_pos (by simp; omega)]
    simp only
    have e1 : decide (deep[i]! < 0) = false := by simp only [decide_eq_false_iff_not]; omega
    have e2 : decide (deep[i]! > 60) = false := by simp only [decide_eq_false_iff_not]; omega
    rw [idx_nat (by omega), Option.bind_some, e1]
    simp only [Bool.not_false, optG_true, Option.bind_some, cond_false]
    rw [e2, if_neg (by simp), idx_nat (by omega), Option.bind_some, idx_nat (by omega), Option.bind_some, Int.toNat_natCast, idx_nat (by rw [List.length_set]; omega), Option.bind_some, getb_set _ _ _ _ (by omega), if_pos rfl, hpi]
    have hb : 0 ≤ (lb deep[i]! r.Points[i]!).Board ∧ (lb deep[i]! r.Points[i]!).Board ≤ 9000 := by
      unfold lb; simp only; split <;> omega
    have e3 : (⟨if r.Points[i]!.Board > deep[i]! then r.Points[i]!.Board else deep[i]!, r.Points[i]!.Lo, r.Points[i]!.Hi⟩ : P) = lb deep[i]! r.Points[i]! := rfl
    rw [e3, w64_id (n := (lb deep[i]! r.Points[i]!).Board - deep[i]!) (by omega) (by omega), need_true (by simp; omega), Option.bind_some, w64_nat (by omega)]
    refine ih n (i + 1) _ _ (by omega) (by omega) (by rw [List.length_set]; exact hps) (by simp [hs]) (fun j hj => ?_) (fun j hj => ?_)
    · rw [getb_set _ _ _ _ (by omega)]
      by_cases e : j = i
      · rw [if_pos e, if_pos (by omega), e]
      · rw [if_neg e, h1 j hj]
        by_cases e' : j < i
        · rw [if_pos e', if_pos (by omega)]
        · rw [if_neg e', if_neg (by omega)]
    · rw [getb_append _ _ _ (by omega)]
      by_cases e : j = s.length
      · rw [if_pos e, e, hs]
      · rw [if_neg e]; exact h2 j (by omega)
theorem depths_get : ∀ (ps : List P) (s : List Int) (i : Nat), s.length = ps.length → i < ps.length → (depths ps s)[i]! = pos (ps[i]!.Board - s[i]!) := by
  intro ps
  induction ps with
  | nil => intro s i _ h; simp at h
  | cons p ps ih =>
    intro s i h hi
    cases s with
    | nil => simp at h
    | cons x s =>
      rw [depths]
      cases i with
      | zero => rw [cons_get0, cons_get0, cons_get0]
      | succ i => rw [cons_get, cons_get, cons_get]; exact ih s i (by simpa using h) (by simpa using hi)

/-- How many passes begin from a point on. -/
def tails : List CP → Int → Int
  | [], _ => 0
  | p :: l, i => (if i ≤ p.From then 1 else 0) + tails l i
theorem tails_room : ∀ (l : List CP) (i : Int), 0 ≤ tails l i ∧ tails l i ≤ l.length := by
  intro l
  induction l with
  | nil => intro i; simp [tails]
  | cons p l ih => intro i; have := ih i; rw [tails, List.length_cons]; split <;> omega
theorem tails_step : ∀ (l : List CP) (i : Int), cover l i - cover l (i - 1) ≤ tails l i - tails l (i + 1) ∧ tails l (i + 1) ≤ tails l i := by
  intro l
  induction l with
  | nil => intro i; simp [tails, cover]
  | cons p l ih =>
    intro i
    have := ih i
    rw [tails, tails, cover, cover]
    split <;> split <;> split <;> split <;> omega
theorem many_tails {l : List CP} {ds : List Int} (h : ∀ i, i < ds.length → ds[i]! = cover l i) : ∀ (m i : Nat), i + m = ds.length → manyL (cover l ((i : Int) - 1)) (ds.drop i) ≤ tails l i := by
  intro m
  induction m with
  | zero =>
    intro i hi
    rw [List.drop_of_length_le (by omega)]
    have := tails_room l i
    simp only [manyL]; omega
  | succ m ih =>
    intro i hi
    have h1 := ih (i + 1) (by omega)
    have h2 := tails_step l i
    have e : ((i + 1 : Nat) : Int) - 1 = i := by omega
    have e' : ((i + 1 : Nat) : Int) = (i : Int) + 1 := by omega
    rw [e, e'] at h1
    rw [drop_bang (l := ds) (i := i) (by omega), manyL, h i (by omega)]
    have h3 : pos (cover l i - cover l ((i : Int) - 1)) ≤ tails l i - tails l (i + 1) := by unfold pos; split <;> omega
    omega
theorem cover_neg {n : Int} : ∀ (l : List CP), (∀ p ∈ l, PassOk n p) → cover l (-1) = 0 := by
  intro l
  induction l with
  | nil => intro _; rfl
  | cons p l ih =>
    intro h
    have h1 := ih fun q hq => h q (by simp [hq])
    have h2 := h p (by simp)
    unfold PassOk at h2
    rw [cover, if_neg (by omega), h1]; rfl

theorem lead_room (v : Int) : ∀ (ds : List Int), 0 ≤ lead v ds ∧ lead v ds ≤ ds.length := by
  intro ds
  induction ds with
  | nil => simp [lead]
  | cons d ds ih => rw [lead, List.length_cons]; split <;> omega
theorem lead_ge (v : Int) : ∀ (ds : List Int) (j : Nat), (j : Int) < lead v ds → ds[j]! ≥ v := by
  intro ds
  induction ds with
  | nil => intro j h; simp [lead] at h; omega
  | cons d ds ih =>
    intro j h
    rw [lead] at h
    by_cases hd : d ≥ v
    · rw [if_pos hd] at h
      cases j with
      | zero => rw [cons_get0]; exact hd
      | succ j => rw [cons_get]; exact ih j (by omega)
    · rw [if_neg hd] at h; omega
theorem rruns_ok {v : Int} : ∀ (ds : List Int) (i : Int) (b : Bool), ∀ p ∈ rruns v ds i b, i ≤ p.From ∧ p.From ≤ p.To ∧ p.To ≤ i + ds.length - 1 := by
  intro ds
  induction ds with
  | nil => intro i b p h; cases h
  | cons d ds ih =>
    intro i b p h
    rw [rruns] at h
    rw [List.length_cons]
    split at h
    · have := ih _ _ p h; omega
    · rcases List.mem_cons.1 h with rfl | h
      · have := lead_room v ds; simp only; omega
      · have := ih _ _ p h; omega
theorem cover_out : ∀ (l : List CP) (k : Int), (∀ p ∈ l, k < p.From) → cover l k = 0 := by
  intro l
  induction l with
  | nil => intro k _; rfl
  | cons p l ih =>
    intro k h
    have := h p (by simp)
    rw [cover, if_neg (by omega), ih k fun q hq => h q (by simp [hq])]; rfl
theorem cover_rruns {v : Int} : ∀ (ds : List Int) (i : Int) (b : Bool) (j : Nat), j < ds.length → cover (rruns v ds i b) (i + j) = if b = true ∧ (j : Int) < lead v ds then 0 else if ds[j]! ≥ v then 1 else 0 := by
  intro ds
  induction ds with
  | nil => intro i b j h; simp at h
  | cons d ds ih =>
    intro i b j hj
    have hl := lead_room v ds
    rw [rruns, lead]
    by_cases hd : d ≥ v
    · have e : decide (d ≥ v) = true := by simpa using hd
      rw [if_pos hd, e]
      cases b with
      | true =>
        rw [if_pos (.inr rfl)]
        cases j with
        | zero =>
          rw [if_pos ⟨rfl, by omega⟩, cover_out]
          intro p hp
          have := (rruns_ok _ _ _ p hp).1; omega
        | succ j =>
          have := ih (i + 1) true j (by simpa using hj)
          rw [show i + 1 + (j : Int) = i + ((j + 1 : Nat) : Int) by omega] at this
          rw [this, cons_get]
          by_cases hc : (j : Int) < lead v ds
          · rw [if_pos ⟨rfl, hc⟩, if_pos ⟨rfl, by omega⟩]
          · rw [if_neg (show ¬ (true = true ∧ (j : Int) < lead v ds) from fun h => hc h.2), if_neg (show ¬ (true = true ∧ ((j + 1 : Nat) : Int) < 1 + lead v ds) from fun h => hc (by omega))]
      | false =>
        rw [if_neg (by simp; omega), cover]
        simp only [Bool.false_eq_true, false_and, if_false]
        cases j with
        | zero =>
          rw [cons_get0, if_pos hd, if_pos (by omega), cover_out]
          · rfl
          · intro p hp
            have := (rruns_ok _ _ _ p hp).1; omega
        | succ j =>
          have := ih (i + 1) true j (by simpa using hj)
          rw [show i + 1 + (j : Int) = i + ((j + 1 : Nat) : Int) by omega] at this
          rw [this, cons_get]
          by_cases hc : (j : Int) < lead v ds
          · rw [if_pos (by omega), if_pos ⟨rfl, hc⟩, if_pos (lead_ge v ds j hc)]; rfl
          · rw [if_neg (by omega), if_neg (fun h => hc h.2)]; simp
    · have e : decide (d ≥ v) = false := by simpa using hd
      rw [if_neg hd, if_pos (.inl (by omega)), e]
      cases j with
      | zero =>
        rw [cons_get0, if_neg (by omega), if_neg hd, cover_out]
        intro p hp
        have := (rruns_ok _ _ _ p hp).1; omega
      | succ j =>
        have := ih (i + 1) false j (by simpa using hj)
        rw [show i + 1 + (j : Int) = i + ((j + 1 : Nat) : Int) by omega] at this
        rw [this, cons_get, if_neg (show ¬ (false = true ∧ (j : Int) < lead v ds) from fun h => by cases h.1), if_neg (show ¬ (b = true ∧ ((j + 1 : Nat) : Int) < 0) from fun h => by omega)]
theorem cover_lvls {ds : List Int} {j : Nat} (hj : j < ds.length) : ∀ (c : Nat) (v : Int), cover (lvls ds c v) j = min ds[j]! (v - 1 + c) - min ds[j]! (v - 1) := by
  intro c
  induction c with
  | zero => intro v; simp [lvls, cover]
  | succ c ih =>
    intro v
    have := cover_rruns (v := v) ds 0 false j hj
    rw [Int.zero_add, if_neg (by simp)] at this
    rw [lvls, cover_app, ih, this]
    split <;> omega
theorem lvls_ok {ds : List Int} : ∀ (c : Nat) (v : Int), ∀ p ∈ lvls ds c v, PassOk ds.length p := by
  intro c
  induction c with
  | zero => intro v p h; cases h
  | succ c ih =>
    intro v p h
    rw [lvls, List.mem_append] at h
    rcases h with h | h
    · have := rruns_ok _ _ _ p h
      unfold PassOk; omega
    · exact ih _ p h
theorem law10 (r : R) (x : List Int) (hx : ∀ n ∈ x, 0 ≤ n ∧ n ≤ 255) : F10 200 r x = some true := by
  unfold F10
  obtain ⟨v, hv1, hv2⟩ := e40 (k := 200) (by omega) r
  rw [hv1, Option.bind_some]
  by_cases hg : Good r
  · have ev : v = true := hv2.2 hg
    have hL := hg.n1
    have hL0 := hg.n0
    rw [ev, if_neg (by simp)]
    obtain ⟨l, l1, l2, l3⟩ := e46 (k := 200) (by omega) hg hx
    obtain ⟨res, c1, c2⟩ := e33 (k := 200) (by omega) r l (by omega)
    have hpe : passE r.Points.length l = 0 := by
      rcases passE_spec r.Points.length l with ⟨a, _⟩ | ⟨_, b⟩
      · exact a
      · exact absurd l3 b
    obtain ⟨k1, k2, k3⟩ := c2.ok hg l2 hpe
    rw [l1, Option.bind_some, c1, Option.bind_some, k1, if_neg (by simp [k2]), need_true (by simp; omega), Option.bind_some, List.nil_append]
    have hroom : ∀ i, i < res.1.length → 0 ≤ res.1[i]! ∧ res.1[i]! ≤ 60 := by
      intro i hi
      rw [k3 i (by omega)]
      have := cover_room l i
      omega
    have hres : res = (res.1, 0) := Prod.ext rfl k1
    obtain ⟨ps, s, g1, g2, g3, g4, g5⟩ := e10L1 hg k2 hroom res.1.length 200 0 r.Points [] (by omega) (by omega) rfl rfl (fun j hj => by rw [if_neg (by omega)]) (fun j hj => by omega)
    rw [show ((0 : Nat) : Int) = 0 from rfl] at g1
    rw [hres, g1, Option.bind_some, outK_inr]
    simp only
    have hpt : ∀ i, i < r.Points.length → (0 ≤ ps[i]!.Board ∧ ps[i]!.Board ≤ 9000) ∧ ps[i]!.Lo = r.Points[i]!.Lo ∧ ps[i]!.Hi = r.Points[i]!.Hi ∧ (0 ≤ s[i]! ∧ s[i]! ≤ 9000) ∧ ps[i]!.Board - s[i]! = res.1[i]! := by
      intro i hi
      have hp := hg.pt r.Points[i]! (by rw [getElem!_pos r.Points i hi]; exact List.getElem_mem _)
      have hr := hroom i (by omega)
      rw [g4 i hi, g5 i hi]
      unfold lb
      simp only
      refine ⟨?_, trivial, trivial, ?_, by omega⟩ <;> split <;> omega
    have hgl : Good ⟨r.Steep, ps⟩ := by
      refine ⟨hg.s0, hg.s1, by simp only; omega, by simp only; omega, fun p hp' => ?_⟩
      simp only at hp'
      obtain ⟨i, hi, rfl⟩ := List.mem_iff_getElem.1 hp'
      have h1 := hpt i (by omega)
      have hp := hg.pt r.Points[i]! (by rw [getElem!_pos r.Points i (by omega)]; exact List.getElem_mem _)
      rw [getElem!_pos ps i hi] at h1
      omega
    have hgs : GoodS ⟨r.Steep, ps⟩ s := ⟨hgl, by simp only; omega, fun i hi => (hpt i (by omega)).2.2.2.1⟩
    have hdeep : depths ps s = res.1 := by
      apply getb_ext (by rw [depths_len _ _ (by omega)]; omega)
      intro i hi
      rw [depths_len _ _ (by omega)] at hi
      rw [depths_get _ _ _ (by omega) hi, (hpt i (by omega)).2.2.2.2]
      have := hroom i (by omega)
      unfold pos; split <;> omega
    have hmany : manyL 0 res.1 ≤ l.length := by
      have := many_tails (l := l) (ds := res.1) (fun i hi => k3 i (by omega)) res.1.length 0 (by omega)
      rw [show ((0 : Nat) : Int) - 1 = -1 by omega, cover_neg l l3, List.drop_zero] at this
      have := tails_room l (0 : Nat)
      omega
    rw [e30v1, e30 (by omega), Option.bind_some]
    have hpr : passR ⟨r.Steep, ps⟩ s = (passL ⟨r.Steep, ps⟩ s, 0) := by
      unfold passR
      rw [surf_good hgs, if_neg (by simp), if_neg]
      rw [show (⟨r.Steep, ps⟩ : R).Points = ps from rfl, hdeep]; omega
    have hlen := passL_len hgs
    rw [show (⟨r.Steep, ps⟩ : R).Points = ps from rfl, hdeep] at hlen
    rw [hpr]
    simp only
    rw [if_neg (by simp; omega)]
    obtain ⟨res2, d1, d2⟩ := e33 (k := 200) (by omega) ⟨r.Steep, ps⟩ (passL ⟨r.Steep, ps⟩ s) (by omega)
    have hok : ∀ p ∈ passL ⟨r.Steep, ps⟩ s, PassOk (⟨r.Steep, ps⟩ : R).Points.length p := by
      intro p hp
      have := lvls_ok _ _ p hp
      rw [hgs.dlen] at this
      exact this
    have hpe2 : passE (⟨r.Steep, ps⟩ : R).Points.length (passL ⟨r.Steep, ps⟩ s) = 0 := by
      rcases passE_spec (⟨r.Steep, ps⟩ : R).Points.length (passL ⟨r.Steep, ps⟩ s) with ⟨a, _⟩ | ⟨_, b⟩
      · exact a
      · exact absurd hok b
    obtain ⟨m1, m2, m3⟩ := d2.ok hgl (by omega) hpe2
    have heq : res2.1 = res.1 := by
      apply getb_ext (by rw [m2]; simp only; omega)
      intro i hi
      rw [m2] at hi
      simp only at hi
      rw [m3 i hi]
      unfold passL
      rw [show (⟨r.Steep, ps⟩ : R).Points = ps from rfl, hdeep, cover_lvls (by omega)]
      obtain ⟨q1, q2, q3⟩ := mx_spec (res.1 ++ [0]) 0
      have hr := hroom i (by omega)
      have := q3 res.1[i]! (by rw [List.mem_append]; left; rw [getElem!_pos res.1 i (by omega)]; exact List.getElem_mem _)
      omega
    rw [d1, Option.bind_some, m1, heq]
    simp only [beq_self_eq_true, optG_true, cond_true]
    rw [e35 (by omega) (by omega), Option.bind_some]
    simp only [optG_true, cond_true, awake200, Option.bind_some]
  · have ev : v = false := by
      cases v with
      | false => rfl
      | true => exact absurd (hv2.1 rfl) hg
    rw [ev, if_pos (by simp), awake200]; rfl
end Go.Proofs.Ytadejgckgnbaoaa
