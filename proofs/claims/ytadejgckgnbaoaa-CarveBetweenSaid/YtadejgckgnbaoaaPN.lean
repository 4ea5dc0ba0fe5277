/- What Carved comes to, in plain words; and the statement CarveCuts in plain words. -/
import Derived.Test.YtadejgckgnbaoaaPM
namespace Go.Proofs.Ytadejgckgnbaoaa
open Go Go.Sx
set_option linter.all false

/-- By how much passes lower a point. -/
def cover : List CP → Int → Int
  | [], _ => 0
  | p :: l, k => (if p.From ≤ k ∧ k ≤ p.To then 1 else 0) + cover l k
/-- What begins at a point, less what ended before it. -/
def diff : List CP → Int → Int
  | [], _ => 0
  | p :: l, k => (if p.From = k then 1 else 0) - (if p.To + 1 = k then 1 else 0) + diff l k
/-- The error of the first pass with one. -/
def passE (n : Int) : List CP → Int
  | [] => 0
  | p :: l => if ¬ ((0 ≤ p.From ∧ p.From ≤ n - 1) ∧ 0 ≤ p.To ∧ p.To ≤ n - 1) then 4 else if p.From > p.To then 2 else passE n l
def PassOk (n : Int) (p : CP) : Prop := (0 ≤ p.From ∧ p.From ≤ n - 1) ∧ (0 ≤ p.To ∧ p.To ≤ n - 1) ∧ p.From ≤ p.To
theorem passE_spec (n : Int) : ∀ l, (passE n l = 0 ∧ ∀ p ∈ l, PassOk n p) ∨ (passE n l ≠ 0 ∧ ¬ ∀ p ∈ l, PassOk n p) := by
  intro l
  induction l with
  | nil => exact .inl ⟨rfl, fun p h => by cases h⟩
  | cons p l ih =>
    rw [passE]
    by_cases h1 : (0 ≤ p.From ∧ p.From ≤ n - 1) ∧ 0 ≤ p.To ∧ p.To ≤ n - 1
    · rw [if_neg (fun h => h h1)]
      by_cases h2 : p.From > p.To
      · rw [if_pos h2]; exact .inr ⟨by omega, fun h => by have := (h p (by simp)).2.2; omega⟩
      · rw [if_neg h2]
        rcases ih with ⟨a, b⟩ | ⟨a, b⟩
        · refine .inl ⟨a, fun q hq => ?_⟩
          rcases List.mem_cons.1 hq with rfl | hq
          · exact ⟨h1.1, h1.2, by omega⟩
          · exact b q hq
        · exact .inr ⟨a, fun h => b fun q hq => h q (by simp [hq])⟩
    · rw [if_pos h1]; exact .inr ⟨by omega, fun h => h1 ⟨(h p (by simp)).1, (h p (by simp)).2.1⟩⟩
theorem cover_room : ∀ (l : List CP) (k : Int), 0 ≤ cover l k ∧ cover l k ≤ l.length := by
  intro l
  induction l with
  | nil => intro k; simp [cover]
  | cons p l ih => intro k; have := ih k; rw [cover, List.length_cons]; split <;> omega
theorem diff_room : ∀ (l : List CP) (k : Int), -(l.length : Int) ≤ diff l k ∧ diff l k ≤ l.length := by
  intro l
  induction l with
  | nil => intro k; simp [diff]
  | cons p l ih => intro k; have := ih k; rw [diff, List.length_cons]; split <;> split <;> omega
theorem cover_app : ∀ (l m : List CP) (k : Int), cover (l ++ m) k = cover l k + cover m k := by
  intro l
  induction l with
  | nil => intro m k; simp [cover]
  | cons p l ih => intro m k; rw [List.cons_append, cover, cover, ih]; omega
theorem diff_app : ∀ (l m : List CP) (k : Int), diff (l ++ m) k = diff l k + diff m k := by
  intro l
  induction l with
  | nil => intro m k; simp [diff]
  | cons p l ih => intro m k; rw [List.cons_append, diff, diff, ih]; omega
theorem cover_step {n : Int} : ∀ (l : List CP), (∀ p ∈ l, PassOk n p) → ∀ k, cover l (k + 1) = cover l k + diff l (k + 1) := by
  intro l
  induction l with
  | nil => intro _ k; simp [cover, diff]
  | cons p l ih =>
    intro h k
    have h1 := ih (fun q hq => h q (by simp [hq])) k
    have h2 := h p (by simp)
    unfold PassOk at h2
    rw [cover, cover, diff, h1]
    split <;> split <;> split <;> split <;> omega
theorem cover_zero {n : Int} : ∀ (l : List CP), (∀ p ∈ l, PassOk n p) → cover l 0 = diff l 0 := by
  intro l
  induction l with
  | nil => intro _; rfl
  | cons p l ih =>
    intro h
    have h1 := ih (fun q hq => h q (by simp [hq]))
    have h2 := h p (by simp)
    unfold PassOk at h2
    rw [cover, diff, h1]
    split <;> split <;> split <;> omega

theorem out2 {k : Nat} (hk : 20 ≤ k) (lo hi x y : Int) : F49 k lo hi [x, y] = some (!decide ((lo ≤ x ∧ x ≤ hi) ∧ lo ≤ y ∧ y ≤ hi)) := by
  rw [e49 (by simp; omega) (by simp)]
  congr 1
  rw [Bool.eq_iff_iff]
  simp only [List.any_cons, List.any_nil, Bool.or_false, Bool.or_eq_true, Bool.not_eq_true', decide_eq_true_eq, decide_eq_false_iff_not]
  omega
theorem e33L1 {k : Nat} (hk : 20 ≤ k) {r : R} (hL : r.Points.length ≤ 10) (hL0 : 1 ≤ r.Points.length) : ∀ (suf pre : List CP) (c : Nat) (d : List Int) (n : Nat), suf.length < n → (pre ++ suf).length ≤ 60 → c = pre.length → d.length = r.Points.length + 1 → (∀ i, i < r.Points.length + 1 → d[i]! = diff pre i) →
    F33L1 k r (pre ++ suf) n (c, d) = (if passE r.Points.length suf ≠ 0 then some (.inl (([] : List Int), passE r.Points.length suf)) else F33L1 k r (pre ++ suf) n (c, d)) ∧
      ((∀ p ∈ suf, PassOk r.Points.length p) → ∃ d', F33L1 k r (pre ++ suf) n (c, d) = some (.inr d') ∧ d'.length = r.Points.length + 1 ∧ ∀ i, i < r.Points.length + 1 → d'[i]! = diff (pre ++ suf) i) := by
  intro suf
  induction suf with
  | nil =>
    intro pre c d n hn hlen hc hd hdi
    obtain ⟨n, rfl⟩ : ∃ j, n = j + 1 := ⟨n - 1, by simp at hn; omega⟩
    refine ⟨by simp [passE], fun _ => ?_⟩
    rw [F33L1, if_neg (by simp; omega)]
    exact ⟨d, rfl, hd, by simpa using hdi⟩
  | cons p suf ih =>
    intro pre c d n hn hlen hc hd hdi
    obtain ⟨n, rfl⟩ : ∃ j, n = j + 1 := ⟨n - 1, by simp at hn; omega⟩
    simp only [List.length_append, List.length_cons] at hlen hn
    have h0 : F33L1 k r (pre ++ p :: suf) (n + 1) (c, d) = if (!decide ((0 ≤ p.From ∧ p.From ≤ (r.Points.length : Int) - 1) ∧ 0 ≤ p.To ∧ p.To ≤ (r.Points.length : Int) - 1)) = true then some (.inl (([] : List Int), 4)) else (if (decide (p.From > p.To)) then (some (.inl (([] : List Int), 2))) else ((idx d p.From).bind fun x13 => (idx d p.From).bind fun x14 => (idx (d.set p.From.toNat (w64 (x13 + 1))) (w64 (p.To + 1))).bind fun x15 => (idx (d.set p.From.toNat (w64 (x13 + 1))) (w64 (p.To + 1))).bind fun x16 => F33L1 k r (pre ++ p :: suf) n ((w64 ((c : Int) + 1)), ((d.set p.From.toNat (w64 (x13 + 1))).set (w64 (p.To + 1)).toNat (w64 (x15 - 1)))))) := by
      rw [F33L1, if_pos (by simp; omega)]
      simp only
      rw [idx_mid (by omega), Option.bind_some, w64_id (n := (r.Points.length : Int) - 1) (by omega) (by omega), out2 hk, Option.bind_some]
    by_cases h1 : (0 ≤ p.From ∧ p.From ≤ (r.Points.length : Int) - 1) ∧ 0 ≤ p.To ∧ p.To ≤ (r.Points.length : Int) - 1
    · have e1 : decide ((0 ≤ p.From ∧ p.From ≤ (r.Points.length : Int) - 1) ∧ 0 ≤ p.To ∧ p.To ≤ (r.Points.length : Int) - 1) = true := decide_eq_true h1
      rw [e1] at h0
      simp only [Bool.not_true, Bool.false_eq_true, if_false] at h0
      by_cases h2 : p.From > p.To
      · have pe : passE r.Points.length (p :: suf) = 2 := by rw [passE, if_neg (fun h => h h1), if_pos h2]
        rw [if_pos (by simpa using h2)] at h0
        rw [pe, h0]
        exact ⟨rfl, fun h => by have := (h p (by simp)).2.2; omega⟩
      · have pe : passE r.Points.length (p :: suf) = passE r.Points.length suf := by rw [passE, if_neg (fun h => h h1), if_neg h2]
        have b1 := diff_room pre (p.From.toNat : Nat)
        have b2 := diff_room pre ((p.To + 1).toNat : Nat)
        have d1 := hdi p.From.toNat (by omega)
        have d2 := hdi (p.To + 1).toNat (by omega)
        have hs : F33L1 k r (pre ++ p :: suf) (n + 1) (c, d) = F33L1 k r (pre ++ p :: suf) n (((c + 1 : Nat) : Int), (d.set p.From.toNat (d[p.From.toNat]! + 1)).set (p.To + 1).toNat ((d.set p.From.toNat (d[p.From.toNat]! + 1))[(p.To + 1).toNat]! - 1)) := by
          rw [h0, if_neg (by simpa using h2), w64_id (n := p.To + 1) (by omega) (by omega), idx_bang (by omega) (by omega), Option.bind_some, Option.bind_some, w64_id (n := d[p.From.toNat]! + 1) (by omega) (by omega), idx_bang (by omega) (by rw [List.length_set]; omega), Option.bind_some, Option.bind_some, w64_nat (by omega), w64_id]
          · rw [getb_set _ _ _ _ (by omega)]; split <;> omega
          · rw [getb_set _ _ _ _ (by omega)]; split <;> omega
        rw [pe, hs]
        have hd' : ∀ i, i < r.Points.length + 1 → ((d.set p.From.toNat (d[p.From.toNat]! + 1)).set (p.To + 1).toNat ((d.set p.From.toNat (d[p.From.toNat]! + 1))[(p.To + 1).toNat]! - 1))[i]! = diff (pre ++ [p]) i := by
          intro i hi
          rw [diff_app, getb_set _ _ _ _ (by rw [List.length_set]; omega), getb_set _ _ _ _ (by omega), getb_set _ _ _ _ (by omega)]
          simp only [diff, Int.add_zero]
          have e1 := hdi i hi
          by_cases g1 : i = (p.To + 1).toNat
          · rw [if_pos g1, if_neg (by omega), if_neg (by omega), if_pos (by omega), ← g1, e1]; omega
          · rw [if_neg g1]
            by_cases g2 : i = p.From.toNat
            · rw [if_pos g2, if_pos (by omega), if_neg (by omega), ← g2, e1]; omega
            · rw [if_neg g2, if_neg (by omega), if_neg (by omega), e1]; omega
        have := ih (pre ++ [p]) (c + 1) _ n (by omega) (by simp; omega) (by simp [hc]) (by rw [List.length_set, List.length_set]; exact hd) hd'
        rw [List.append_assoc, List.singleton_append] at this
        obtain ⟨t1, t2⟩ := this
        exact ⟨t1, fun h => t2 fun q hq => h q (by simp [hq])⟩
    · have pe : passE r.Points.length (p :: suf) = 4 := by rw [passE, if_pos h1]
      rw [if_pos (by simp only [Bool.not_eq_true', decide_eq_false_iff_not]; exact h1)] at h0
      rw [pe, h0]
      exact ⟨rfl, fun h => absurd ⟨(h p (by simp)).1, (h p (by simp)).2.1⟩ h1⟩
theorem e33L2 {N : Nat} (hN : N ≤ 10) {l : List CP} (hl : l.length ≤ 60) (hok : ∀ p ∈ l, PassOk N p) (so : List Int) (hso : so.length = N + 1) : ∀ (m n c : Nat) (d : List Int), m < n → c + m = N → d.length = N + 1 → (∀ i, i ≤ c → d[i]! = cover l i) → (∀ i, c < i → i ≤ N → d[i]! = diff l i) →
    ∃ d', F33L2 so n (c, d) = some (.inr d') ∧ d'.length = N + 1 ∧ ∀ i, i ≤ N → d'[i]! = cover l i := by
  intro m
  induction m with
  | zero =>
    intro n c d hn hc hd h1 h2
    obtain ⟨n, rfl⟩ : ∃ j, n = j + 1 := ⟨n - 1, by omega⟩
    rw [F33L2, hso, w64_id (by omega) (by omega), if_neg (by simp; omega)]
    exact ⟨d, rfl, hd, fun i hi => h1 i (by omega)⟩
  | succ m ih =>
    intro n c d hn hc hd h1 h2
    obtain ⟨n, rfl⟩ : ∃ j, n = j + 1 := ⟨n - 1, by omega⟩
    have a1 := h1 c (by omega)
    have a2 := h2 (c + 1) (by omega) (by omega)
    have b1 := cover_room l c
    have b2 := diff_room l ((c + 1 : Nat) : Int)
    rw [F33L2, hso, w64_id (n := ((N + 1 : Nat) : Int) - 1) (by omega) (by omega), if_pos (by simp; omega)]
    simp only
    rw [w64_nat (by omega), idx_nat (by omega), Option.bind_some, idx_nat (by omega), Option.bind_some, Option.bind_some, Int.toNat_natCast, w64_id (by omega) (by omega)]
    refine ih n (c + 1) _ (by omega) (by omega) (by rw [List.length_set]; exact hd) (fun i hi => ?_) (fun i hi hi' => ?_)
    · rw [getb_set _ _ _ _ (by omega)]
      by_cases e : i = c + 1
      · rw [if_pos e, a1, a2, e]
        have := cover_step l hok c
        rw [show ((c + 1 : Nat) : Int) = (c : Int) + 1 by omega]
        omega
      · rw [if_neg e]; exact h1 i (by omega)
    · rw [getb_set _ _ _ _ (by omega), if_neg (by omega)]; exact h2 i (by omega) hi'
/-- What Carved returns. -/
structure CRes (r : R) (l : List CP) (res : List Int × Int) : Prop where
  bad : ¬ Good r → res = ([], (chk r).2.2)
  long : Good r → 60 < l.length → res = ([], 3)
  err : Good r → l.length ≤ 60 → passE r.Points.length l ≠ 0 → res = ([], passE r.Points.length l)
  ok : Good r → l.length ≤ 60 → passE r.Points.length l = 0 → res.2 = 0 ∧ res.1.length = r.Points.length ∧ ∀ i, i < r.Points.length → res.1[i]! = cover l i
theorem CRes.uniq {r : R} {l : List CP} {a b : List Int × Int} (ha : CRes r l a) (hb : CRes r l b) : a = b := by
  by_cases hg : Good r
  · by_cases h1 : l.length ≤ 60
    · by_cases h2 : passE r.Points.length l = 0
      · obtain ⟨a1, a2, a3⟩ := ha.ok hg h1 h2
        obtain ⟨b1, b2, b3⟩ := hb.ok hg h1 h2
        refine Prod.ext (getb_ext (a2.trans b2.symm) fun i hi => ?_) (a1.trans b1.symm)
        rw [a3 i (by omega), b3 i (by omega)]
      · rw [ha.err hg h1 h2, hb.err hg h1 h2]
    · rw [ha.long hg (by omega), hb.long hg (by omega)]
  · rw [ha.bad hg, hb.bad hg]
theorem CRes.len {r : R} {l : List CP} {a : List Int × Int} (ha : CRes r l a) : a.1.length ≤ 10 := by
  by_cases hg : Good r
  · by_cases h1 : l.length ≤ 60
    · by_cases h2 : passE r.Points.length l = 0
      · have := (ha.ok hg h1 h2).2.1; have := hg.n1; omega
      · rw [ha.err hg h1 h2]; simp
    · rw [ha.long hg (by omega)]; simp
  · rw [ha.bad hg]; simp
theorem e33 {k : Nat} (hk : 100 ≤ k) (r : R) (l : List CP) (hll : l.length < 2 ^ 63) : ∃ res, F33 k r l = some res ∧ CRes r l res := by
  unfold F33
  rw [e16 (by omega), Option.bind_some]
  rcases chk_spec r with ⟨h1, hg⟩ | ⟨h1, hg⟩
  · have hL := hg.n1
    have hL0 := hg.n0
    rw [h1, if_neg (by simp)]
    by_cases h2 : l.length ≤ 60
    · rw [if_neg (by simp; omega), w64_nat (by omega), need_true (by omega), Option.bind_some, Int.toNat_natCast]
      obtain ⟨t1, t2⟩ := e33L1 (k := k) (by omega) hL hL0 l [] 0 (List.replicate (r.Points.length + 1) 0) k (by omega) (by simpa using h2) rfl (by simp) (fun i hi => by
        rw [getElem!_pos _ i (by simpa using hi), List.getElem_replicate]; rfl)
      rw [List.nil_append, show ((0 : Nat) : Int) = 0 from rfl] at t1 t2
      rcases passE_spec r.Points.length l with ⟨p1, p2⟩ | ⟨p1, p2⟩
      · obtain ⟨d, g1, g2, g3⟩ := t2 p2
        rw [g1, Option.bind_some, outK_inr]
        obtain ⟨d', k1, k2, k3⟩ := e33L2 hL h2 p2 d g2 r.Points.length k 0 d (by omega) (by omega) g2 (fun i hi => by
          have : i = 0 := by omega
          subst this
          rw [g3 0 (by omega), show ((0 : Nat) : Int) = 0 from rfl, cover_zero l p2]) (fun i hi hi' => g3 i (by omega))
        rw [show ((0 : Nat) : Int) = 0 from rfl] at k1
        rw [k1, Option.bind_some, outK_inr, sub_take (by omega) (by omega), Option.bind_some, Int.toNat_natCast]
        refine ⟨_, rfl, fun h => absurd hg h, fun _ h => by omega, fun _ _ h => absurd p1 h, fun _ _ _ => ⟨rfl, by simp; omega, fun i hi => ?_⟩⟩
        rw [take_get _ hi]; exact k3 i (by omega)
      · rw [if_pos p1] at t1
        rw [t1, Option.bind_some, outK_inl]
        exact ⟨_, rfl, fun h => absurd hg h, fun _ h => by omega, fun _ _ _ => rfl, fun _ _ h => absurd h p1⟩
    · rw [if_pos (by simp; omega)]
      exact ⟨_, rfl, fun h => absurd hg h, fun _ _ => rfl, fun _ h => absurd h h2, fun _ h => absurd h h2⟩
  · rw [if_pos (by simpa using h1)]
    exact ⟨_, rfl, fun _ => rfl, fun h => absurd h hg, fun h => absurd h hg, fun h => absurd h hg⟩

theorem e34L1 {r : R} (hL : r.Points.length ≤ 10) : ∀ (suf pre : List CP) (c n : Nat), suf.length + 1 < n → (pre ++ suf).length ≤ 60 → c = pre.length → F34L1 r (pre ++ suf) n (0, c) = some (.inr (passE r.Points.length suf)) := by
  intro suf
  induction suf with
  | nil =>
    intro pre c n hn hlen hc
    obtain ⟨n, rfl⟩ : ∃ j, n = j + 1 := ⟨n - 1, by omega⟩
    rw [F34L1, if_neg (by simp; omega)]; rfl
  | cons p suf ih =>
    intro pre c n hn hlen hc
    obtain ⟨n, rfl⟩ : ∃ j, n = j + 2 := ⟨n - 2, by omega⟩
    simp only [List.length_append, List.length_cons] at hlen hn
    rw [F34L1, if_pos (by simp; omega)]
    simp only
    rw [idx_mid (by omega), w64_id (n := (r.Points.length : Int) - 1) (by omega) (by omega), w64_nat (by omega)]
    simp only [Option.bind_some]
    simp only [e50, Option.bind_some]
    by_cases h1 : 0 ≤ p.From ∧ p.From ≤ (r.Points.length : Int) - 1
    · have e1 : (decide (0 ≤ p.From) && decide (p.From ≤ (r.Points.length : Int) - 1)) = true := by simpa using h1
      rw [e1]
      simp only [Bool.not_true, Bool.not_false, optG_true, Option.bind_some, cond_false]
      by_cases h2 : 0 ≤ p.To ∧ p.To ≤ (r.Points.length : Int) - 1
      · have e2 : (decide (0 ≤ p.To) && decide (p.To ≤ (r.Points.length : Int) - 1)) = true := by simpa using h2
        rw [e2, if_neg (by simp)]
        by_cases h3 : p.From > p.To
        · rw [if_pos (by simpa using h3), passE, if_neg (fun h => h ⟨h1, h2⟩), if_pos h3, F34L1, if_neg (by simp)]
        · rw [if_neg (by simpa using h3), passE, if_neg (fun h => h ⟨h1, h2⟩), if_neg h3]
          have := ih (pre ++ [p]) (c + 1) (n + 1) (by omega) (by simp; omega) (by simp [hc])
          rwa [List.append_assoc, List.singleton_append] at this
      · have e2 : (decide (0 ≤ p.To) && decide (p.To ≤ (r.Points.length : Int) - 1)) = false := by
          cases hd : (decide (0 ≤ p.To) && decide (p.To ≤ (r.Points.length : Int) - 1)) with
          | false => rfl
          | true => exact absurd (by simpa using hd) h2
        rw [e2, if_pos (by simp), passE, if_pos (fun h => h2 h.2), F34L1, if_neg (by simp)]
    · have e1 : (decide (0 ≤ p.From) && decide (p.From ≤ (r.Points.length : Int) - 1)) = false := by
        cases hd : (decide (0 ≤ p.From) && decide (p.From ≤ (r.Points.length : Int) - 1)) with
        | false => rfl
        | true => exact absurd (by simpa using hd) h1
      rw [e1]
      simp only [Bool.not_true, Bool.not_false, optG_false, Option.bind_some, cond_true, if_true]
      rw [passE, if_pos (fun h => h1 h.1), F34L1, if_neg (by simp)]
theorem e63L2 {l : List CP} {i : Nat} (hi : i < l.length) {N : Nat} (hN : N ≤ 10) (hp : PassOk N l[i]!) (o0 : List Int) {B : Int} (hB : B ≤ 60) (base : Nat → Int) (hbase : ∀ k, 0 ≤ base k ∧ base k ≤ B) : ∀ (m n c : Nat) (d : List Int), m < n → (c : Int) + m = l[i]!.To + 1 → l[i]!.From ≤ c → d.length = N → (∀ k, k < N → d[k]! = base k + if l[i]!.From ≤ k ∧ (k : Int) < c then 1 else 0) →
    ∃ d', F63L2 l (i, o0) n (c, d) = some (.inr d') ∧ d'.length = N ∧ ∀ k, k < N → d'[k]! = base k + if l[i]!.From ≤ k ∧ (k : Int) ≤ l[i]!.To then 1 else 0 := by
  unfold PassOk at hp
  intro m
  induction m with
  | zero =>
    intro n c d hn hc hf hd h
    obtain ⟨n, rfl⟩ : ∃ j, n = j + 1 := ⟨n - 1, by omega⟩
    rw [F63L2]
    simp only
    rw [idx_nat hi, Option.bind_some, if_neg (by simp only [decide_eq_true_eq]; omega)]
    refine ⟨d, rfl, hd, fun k hk => ?_⟩
    rw [h k hk]
    congr 1
    split <;> split <;> omega
  | succ m ih =>
    intro n c d hn hc hf hd h
    obtain ⟨n, rfl⟩ : ∃ j, n = j + 1 := ⟨n - 1, by omega⟩
    have a := h c (by omega)
    have b := hbase c
    rw [if_neg (by omega)] at a
    rw [F63L2]
    simp only
    rw [idx_nat hi, Option.bind_some, if_pos (by simp only [decide_eq_true_eq]; omega), idx_nat (by omega), Option.bind_some, Option.bind_some, w64_nat (by omega), Int.toNat_natCast, w64_id (by omega) (by omega)]
    refine ih n (c + 1) _ (by omega) (by omega) (by omega) (by rw [List.length_set]; exact hd) fun k hk => ?_
    rw [getb_set _ _ _ _ (by omega)]
    by_cases e : k = c
    · subst e
      rw [if_pos rfl, a, if_pos (by omega)]; omega
    · rw [if_neg e, h k hk]
      congr 1
      split <;> split <;> omega
theorem e63L1 {k : Nat} (hk : 20 ≤ k) {N : Nat} (hN : N ≤ 10) : ∀ (suf pre : List CP) (c n : Nat) (d : List Int), suf.length < n → (pre ++ suf).length ≤ 60 → c = pre.length → (∀ p ∈ suf, PassOk N p) → d.length = N → (∀ i, i < N → d[i]! = cover pre i) →
    ∃ d', F63L1 k (pre ++ suf) n (c, d) = some (.inr d') ∧ d'.length = N ∧ ∀ i, i < N → d'[i]! = cover (pre ++ suf) i := by
  intro suf
  induction suf with
  | nil =>
    intro pre c n d hn hlen hc hok hd h
    obtain ⟨n, rfl⟩ : ∃ j, n = j + 1 := ⟨n - 1, by simp at hn; omega⟩
    rw [F63L1, if_neg (by simp; omega)]
    exact ⟨d, rfl, hd, by simpa using h⟩
  | cons p suf ih =>
    intro pre c n d hn hlen hc hok hd h
    obtain ⟨n, rfl⟩ : ∃ j, n = j + 1 := ⟨n - 1, by simp at hn; omega⟩
    have hlen' := hlen
    simp only [List.length_append, List.length_cons] at hlen hn
    have hp := hok p (by simp)
    have hpi : (pre ++ p :: suf)[c]! = p := by
      rw [getElem!_pos _ c (by simp; omega)]
      simp [hc]
    rw [F63L1, if_pos (by simp; omega)]
    simp only
    rw [idx_mid (by omega), Option.bind_some]
    have hp' := hp
    unfold PassOk at hp'
    obtain ⟨d', g1, g2, g3⟩ := e63L2 (l := pre ++ p :: suf) (i := c) (by simp; omega) hN (by rw [hpi]; exact hp) d (B := pre.length) (by omega) (fun i => cover pre i) (fun i => cover_room pre i) (p.To - p.From + 1).toNat k p.From.toNat d (by omega) (by rw [hpi]; omega) (by rw [hpi]; omega) hd (fun i hi => by rw [hpi, if_neg (by omega), h i hi]; simp)
    rw [show ((p.From.toNat : Nat) : Int) = p.From by omega] at g1
    rw [g1, Option.bind_some, outK_inr, w64_nat (by omega)]
    have := ih (pre ++ [p]) (c + 1) n d' (by omega) (by simp; omega) (by simp [hc]) (fun q hq => hok q (by simp [hq])) g2 (fun i hi => by
      rw [g3 i hi, hpi, cover_app]; simp [cover])
    rwa [List.append_assoc, List.singleton_append] at this
theorem e34 {k : Nat} (hk : 100 ≤ k) (r : R) (l : List CP) (hll : l.length < 2 ^ 63) : ∃ res, F34 k r l = some res ∧ CRes r l res := by
  unfold F34
  rw [e17 (by omega), Option.bind_some]
  rcases chk_spec r with ⟨h1, hg⟩ | ⟨h1, hg⟩
  · have hL := hg.n1
    have hL0 := hg.n0
    rw [h1]
    simp only [beq_self_eq_true, cond_true]
    by_cases h2 : l.length ≤ 60
    · rw [if_neg (by simp; omega)]
      simp only [Option.bind_some, outK_inr]
      have := e34L1 (r := r) hL l [] 0 k (by omega) (by simpa using h2) rfl
      rw [List.nil_append, show ((0 : Nat) : Int) = 0 from rfl] at this
      rw [this]
      simp only [Option.bind_some, outK_inr]
      rcases passE_spec r.Points.length l with ⟨p1, p2⟩ | ⟨p1, p2⟩
      · rw [p1, if_neg (by simp)]
        unfold F63
        rw [need_true (by omega), Option.bind_some, Int.toNat_natCast]
        obtain ⟨d, g1, g2, g3⟩ := e63L1 (k := k) (by omega) hL l [] 0 k (List.replicate r.Points.length 0) (by omega) (by simpa using h2) rfl p2 (by simp) (fun i hi => by
          rw [getElem!_pos _ i (by simpa using hi), List.getElem_replicate]; rfl)
        rw [List.nil_append] at g3
        rw [List.nil_append, show ((0 : Nat) : Int) = 0 from rfl] at g1
        rw [g1]
        simp only [Option.bind_some, outK_inr]
        exact ⟨_, rfl, fun h => absurd hg h, fun _ h => by omega, fun _ _ h => absurd p1 h, fun _ _ _ => ⟨rfl, g2, g3⟩⟩
      · rw [if_pos (by simpa using p1)]
        exact ⟨_, rfl, fun h => absurd hg h, fun _ h => by omega, fun _ _ _ => rfl, fun _ _ h => absurd h p1⟩
    · rw [if_pos (by simp; omega)]
      simp only [Option.bind_some, outK_inr]
      obtain ⟨k, rfl⟩ : ∃ j, k = j + 1 := ⟨k - 1, by omega⟩
      rw [F34L1, if_neg (by simp)]
      simp only [Option.bind_some, outK_inr]
      rw [if_pos (by simp)]
      exact ⟨_, rfl, fun h => absurd hg h, fun _ _ => rfl, fun _ h => absurd h h2, fun _ h => absurd h h2⟩
  · have e : ((chk r).2.2 == 0) = false := by simpa using h1
    obtain ⟨k, rfl⟩ : ∃ j, k = j + 1 := ⟨k - 1, by omega⟩
    rw [e]
    simp only [cond_false, Bool.false_eq_true, if_false, Option.bind_some, outK_inr]
    rw [F34L1, if_neg (by simp [e])]
    simp only [Option.bind_some, outK_inr]
    rw [if_pos (by simpa using h1)]
    exact ⟨_, rfl, fun _ => rfl, fun h => absurd h hg, fun h => absurd h hg, fun h => absurd h hg⟩

theorem e32L1 {l : List CP} (hl : l.length < 2 ^ 62) : ∀ (m n i : Nat), m ≤ n → i + m = l.length → F32L1 l l (n + 1) i = some (.inr ()) := by
  intro m
  induction m with
  | zero => intro n i _ h; rw [F32L1, if_neg (by simp; omega)]
  | succ m ih =>
    intro n i hn hm
    obtain ⟨n, rfl⟩ : ∃ j, n = j + 1 := ⟨n - 1, by omega⟩
    rw [F32L1, if_pos (by simp; omega), idx_nat (by omega), Option.bind_some, Option.bind_some, if_neg (by simp), w64_nat (by omega)]
    exact ih n (i + 1) (by omega) (by omega)
theorem e32 {k : Nat} {l : List CP} (hk : l.length < k) (hl : l.length < 2 ^ 62) : F32 k l l = some true := by
  unfold F32
  rw [if_neg (by simp)]
  obtain ⟨k', rfl⟩ : ∃ j, k = j + 1 := ⟨k - 1, by omega⟩
  have := e32L1 hl l.length k' 0 (by omega) (by omega)
  rw [show (0 : Int) = ((0 : Nat) : Int) from rfl, this]
  rfl
theorem lvls_many {ds : List Int} : ∀ (c : Nat) (v : Int), 1 ≤ v → manyL 0 (upto (v - 1) ds) + (lvls ds c v).length = manyL 0 (upto (v - 1 + c) ds) := by
  intro c
  induction c with
  | zero => intro v _; simp [lvls]
  | succ c ih =>
    intro v hv
    have h1 := ih (v + 1) (by omega)
    have hst := many_step (m := v - 1) ds 0 0
    rw [show v - 1 + 1 = v by omega, show min 0 (v - 1) = 0 by omega, show min 0 v = 0 by omega] at hst
    have e0 : decide ((0 : Int) ≥ v) = false := by simp only [decide_eq_false_iff_not]; omega
    rw [e0] at hst
    rw [lvls, List.length_append]
    rw [show v + 1 - 1 = v by omega] at h1
    rw [show v - 1 + ((c + 1 : Nat) : Int) = v + c by omega]
    omega
theorem passL_len {r : R} {s : List Int} (h : GoodS r s) : ((passL r s).length : Int) = manyL 0 (depths r.Points s) := by
  have hd := h.deep
  obtain ⟨m1, m2, m3⟩ := mx_spec (depths r.Points s ++ [0]) 0
  have := lvls_many (ds := depths r.Points s) (mx (depths r.Points s ++ [0]) 0).toNat 1 (by omega)
  rw [show (1 : Int) - 1 = 0 by omega, upto0 hd, upto_id (fun d hd => by have := m3 d (by simp [hd]); omega)] at this
  unfold passL
  omega
theorem passR_len (r : R) (s : List Int) : (passR r s).1.length ≤ 60 := by
  unfold passR
  rcases surfE_spec r s with ⟨h3, h4⟩ | ⟨h3, h4⟩
  · rw [h3, if_neg (by simp)]
    have := passL_len h4
    split
    · simp
    · simp only; omega
  · rw [if_pos (by simpa using h3)]; simp
set_option maxRecDepth 100000 in
theorem awake200 : F25 200 = some true := by kernel_rfl
theorem law4 (r : R) (s : List Int) (l : List CP) (hl : l.length < 2 ^ 63) : F4 200 r s l = some true := by
  unfold F4
  rw [e26 (by omega), e27 (by omega), Option.bind_some, Option.bind_some, if_neg (by simp), e28 (by omega), e29 (by omega), Option.bind_some, Option.bind_some, if_neg (by simp), e30 (by omega), e31 (by omega), Option.bind_some, Option.bind_some]
  have hpl := passR_len r s
  rw [e32 (by omega) (by omega), Option.bind_some, if_neg (by simp)]
  obtain ⟨a, h1, h2⟩ := e33 (k := 200) (by omega) r l hl
  obtain ⟨b, h3, h4⟩ := e34 (k := 200) (by omega) r l hl
  obtain rfl := h2.uniq h4
  have := h2.len
  rw [h1, h3, Option.bind_some, Option.bind_some, e35 (by omega) (by omega), Option.bind_some]
  simp only [beq_self_eq_true, cond_true, optG_true, awake200, Option.bind_some]
end Go.Proofs.Ytadejgckgnbaoaa
