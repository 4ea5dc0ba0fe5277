/- The statement CarveBetween in plain words. -/
import Derived.Test.YtadejgckgnbaoaaPO
import Derived.Test.YtadejgckgnbaoaaDBW
namespace Go.Proofs.Ytadejgckgnbaoaa
open Go Go.Sx
set_option linter.all false

theorem far_adj' (S : Int) (i : Nat) : far S i (i + 1) = S := by
  have := far_pred S i (i + 1) (by omega)
  rw [far_self] at this; omega
theorem Fine.within {r : R} (hg : Good r) {s : List Int} (h : Fine r s) {l : List Sp} (hl : Bnd r.Steep r.Points l) {i : Nat} (hi : i < r.Points.length) : l[i]!.Lo ≤ s[i]! ∧ s[i]! ≤ l[i]!.Hi := by
  obtain ⟨k, k1, k2⟩ := (hl.lo i hi).is
  obtain ⟨m, m1, m2⟩ := (hl.hi i hi).is
  have a := fine_far hg.s0 h k i k1 hi
  have b := fine_far hg.s0 h i m hi m1
  have c := h.bnd k k1
  have d := h.bnd m m1
  have e := far_symm r.Steep k i
  omega
theorem e7L1 {r : R} (hg : Good r) (hs : Some' r.Steep r.Points) {l : List Sp} (hl : Bnd r.Steep r.Points l) {s : List Int} (hgs : GoodS r s) : ∀ (m n i : Nat) (low high : List Int), m < n → i + m = l.length → low.length = i → high.length = i → (∀ j, j < i → low[j]! = l[j]!.Lo ∧ high[j]! = l[j]!.Hi) →
    ∃ low' high', F7L1 200 r (l, 0) s n (i, low, high) = some (.inr (low', high')) ∧ low'.length = l.length ∧ high'.length = l.length ∧ ∀ j, j < l.length → low'[j]! = l[j]!.Lo ∧ high'[j]! = l[j]!.Hi := by
  have hL := hg.n1
  have hlen := hl.len
  have hsl := hgs.len
  intro m
  induction m with
  | zero =>
    intro n i low high hn hi h1 h2 h
    obtain ⟨n, rfl⟩ : ∃ j, n = j + 1 := ⟨n - 1, by omega⟩
    rw [F7L1, if_neg (by simp; omega)]
    exact ⟨low, high, rfl, by omega, by omega, fun j hj => h j (by omega)⟩
  | succ m ih =>
    intro n i low high hn hi h1 h2 h
    obtain ⟨n, rfl⟩ : ∃ j, n = j + 1 := ⟨n - 1, by omega⟩
    obtain ⟨b, b1, b2⟩ := e42 (k := 200) (by omega) hgs
    have hne := hl.ne hg.s0 hs (i := i) (by omega)
    rw [F7L1, if_pos (by simp; omega)]
    simp only
    rw [b1, Option.bind_some, idx_nat (l := s) (by omega), idx_nat (l := l) (by omega)]
    have hcond : ∃ x17 x18 x19 x20 : _, True := ⟨0, 0, 0, 0, trivial⟩
    have e3 : decide (l[i]!.Lo > l[i]!.Hi) = false := by simp only [decide_eq_false_iff_not]; omega
    have nxt : ∃ low' high', ((need ((low.length + ([l[i]!.Lo] : List Int).length) * 8 ≤ 140737488355328 ∧ low.length + ([l[i]!.Lo] : List Int).length ≤ 9223372036854775807)).bind fun x25 => (some l[i]!).bind fun x26 => (need ((high.length + ([x26.Hi] : List Int).length) * 8 ≤ 140737488355328 ∧ high.length + ([x26.Hi] : List Int).length ≤ 9223372036854775807)).bind fun x27 => F7L1 200 r (l, 0) s n ((w64 ((i : Int) + 1)), (low ++ ([l[i]!.Lo] : List Int)), (high ++ ([x26.Hi] : List Int)))) = some (.inr (low', high')) ∧ low'.length = l.length ∧ high'.length = l.length ∧ ∀ j, j < l.length → low'[j]! = l[j]!.Lo ∧ high'[j]! = l[j]!.Hi := by
      rw [need_true (by simp; omega), Option.bind_some, Option.bind_some, need_true (by simp; omega), Option.bind_some, w64_nat (by omega)]
      refine ih n (i + 1) _ _ (by omega) (by omega) (by simp [h1]) (by simp [h2]) fun j hj => ?_
      rw [getb_append _ _ _ (by omega), getb_append _ _ _ (by omega)]
      by_cases e : j = i
      · rw [if_pos (by omega), if_pos (by omega), e]; exact ⟨rfl, rfl⟩
      · rw [if_neg (by omega), if_neg (by omega)]; exact h j (by omega)
    cases b with
    | false =>
      simp only [optG_false, Option.bind_some, Bool.false_and, cond_false, Bool.not_false, optG_true]
      rw [e3, if_neg (by simp)]
      exact nxt
    | true =>
      have hw := (b2.1 rfl).within hg hl (i := i) (by omega)
      have e1 : decide (s[i]! < l[i]!.Lo) = false := by simp only [decide_eq_false_iff_not]; omega
      have e2 : decide (s[i]! > l[i]!.Hi) = false := by simp only [decide_eq_false_iff_not]; omega
      simp only [optG_true, Option.bind_some, e1, e2, e3, Bool.not_false, Bool.and_self, cond_true, cond_false]
      rw [if_neg (by simp)]
      exact nxt
theorem law7 (r : R) (x : List Int) (which : S__2quint8) (hx : ∀ n ∈ x, 0 ≤ n ∧ n ≤ 255) (hxl : x.length < 2 ^ 63) (h0 : 0 ≤ which.e0 ∧ which.e0 ≤ 255) (h1 : 0 ≤ which.e1 ∧ which.e1 ≤ 255) : F7 200 r x which = some true := by
  unfold F7
  obtain ⟨v, hv1, hv2⟩ := e40 (k := 200) (by omega) r
  obtain ⟨b, hb1, hb2⟩ := e18 (k := 200) (by omega) r
  rw [hb1, Option.bind_some, hv1, Option.bind_some]
  by_cases hg : Good r
  · have ev : v = true := hv2.2 hg
    have hL := hg.n1
    have hL0 := hg.n0
    rw [ev, if_neg (by simp)]
    obtain ⟨s, s1, s2⟩ := e41 (k := 200) (by omega) hg hx hxl
    rw [s1, Option.bind_some]
    by_cases hs : Some' r.Steep r.Points
    · obtain ⟨k1, k2⟩ := hb2.ok hg hs
      have hlen := k2.len
      have hbe : b = (b.1, 0) := Prod.ext rfl k1
      rw [if_neg (by simp [k1]), if_neg (by simp [hlen])]
      obtain ⟨low, high, g1, g2, g3, g4⟩ := e7L1 hg hs k2 s2 b.1.length 200 0 [] [] (by omega) (by omega) rfl rfl (fun j hj => by omega)
      rw [show ((0 : Nat) : Int) = 0 from rfl, ← hbe] at g1
      rw [g1, Option.bind_some, outK_inr, need_true (by omega), Option.bind_some]
      rw [show IntKind.i64.wrap which.e0 = w64 which.e0 from rfl, w64_id (n := which.e0) (by omega) (by omega), show IntKind.i64.wrap which.e1 = w64 which.e1 from rfl, w64_id (n := which.e1) (by omega) (by omega)]
      have hi0 := tmod_room h0.1 (show 0 < (b.1.length : Int) by omega)
      obtain ⟨i, hi⟩ : ∃ i : Nat, which.e0.tmod (b.1.length : Int) = (i : Int) := ⟨(which.e0.tmod (b.1.length : Int)).toNat, by omega⟩
      rw [hi] at hi0 ⊢
      have hil : i < b.1.length := by omega
      have hip : i < r.Points.length := by omega
      have hne := k2.ne hg.s0 hs (i := i) hip
      have hown := k2.own (i := i) hip
      have hp := hg.pt r.Points[i]! (by rw [getElem!_pos r.Points i hip]; exact List.getElem_mem _)
      rw [idx_nat hil, Option.bind_some, Option.bind_some, Option.bind_some, w64_id (n := b.1[i]!.Hi - b.1[i]!.Lo) (by omega) (by omega), w64_id (n := b.1[i]!.Hi - b.1[i]!.Lo + 1) (by omega) (by omega), need_true (by omega), Option.bind_some, need_true (by simp; omega), Option.bind_some]
      have ht := tmod_room h1.1 (show 0 < b.1[i]!.Hi - b.1[i]!.Lo + 1 by omega)
      rw [w64_id (n := b.1[i]!.Lo + which.e1.tmod (b.1[i]!.Hi - b.1[i]!.Lo + 1)) (by omega) (by omega)]
      obtain ⟨n, hn⟩ : ∃ n, n = b.1[i]!.Lo + which.e1.tmod (b.1[i]!.Hi - b.1[i]!.Lo + 1) := ⟨_, rfl⟩
      rw [← hn, List.nil_append, Int.toNat_natCast, idx_nat hip, Option.bind_some, idx_nat (by rw [List.length_set]; exact hip), Option.bind_some, getb_set _ _ _ _ hip, if_pos rfl]
      simp only [List.set_set]
      have hgj : Good ⟨r.Steep, r.Points.set i ⟨r.Points[i]!.Board, n, n⟩⟩ := by
        refine ⟨hg.s0, hg.s1, by simp only [List.length_set]; omega, by simp only [List.length_set]; omega, fun p hp' => ?_⟩
        rcases List.mem_or_eq_of_mem_set hp' with h | h
        · exact hg.pt p h
        · rw [h]; simp only; omega
      have hsj : Some' r.Steep (r.Points.set i ⟨r.Points[i]!.Board, n, n⟩) := by
        intro p q hp' hq'
        rw [List.length_set] at hp' hq'
        rw [getb_set _ _ _ _ hip, getb_set _ _ _ _ hip]
        have hpq := hs p q hp' hq'
        by_cases e1 : p = i
        · subst e1
          rw [if_pos rfl]
          by_cases e2 : q = p
          · rw [if_pos e2, e2, far_self]; simp
          · rw [if_neg e2]
            have := (k2.hi p hip).ub q hq'
            simp only; omega
        · rw [if_neg e1]
          by_cases e2 : q = i
          · subst e2
            rw [if_pos rfl]
            have := (k2.lo q hip).ub p hp'
            have := far_symm r.Steep p q
            simp only; omega
          · rw [if_neg e2]; exact hpq
      obtain ⟨c, c1, c2⟩ := e18 (k := 200) (by omega) ⟨r.Steep, r.Points.set i ⟨r.Points[i]!.Board, n, n⟩⟩
      have c3 := (c2.ok hgj hsj).1
      have fl : Fine r low := by
        refine ⟨by omega, fun j hj => ?_, fun j hj => ?_⟩
        · rw [(g4 j (by omega)).1]
          have := k2.own (i := j) hj; have := k2.ne hg.s0 hs (i := j) hj; omega
        · rw [(g4 j (by omega)).1, (g4 (j + 1) (by omega)).1]
          have h1 := k2.lip hg.s0 (i := j) (j := j + 1) (by omega) hj
          have h2 := k2.lip hg.s0 (i := j + 1) (j := j) hj (by omega)
          rw [far_adj'] at h1
          rw [far_symm, far_adj'] at h2
          omega
      have fh : Fine r high := by
        refine ⟨by omega, fun j hj => ?_, fun j hj => ?_⟩
        · rw [(g4 j (by omega)).2]
          have := k2.own (i := j) hj; have := k2.ne hg.s0 hs (i := j) hj; omega
        · rw [(g4 j (by omega)).2, (g4 (j + 1) (by omega)).2]
          have h1 := k2.lip hg.s0 (i := j) (j := j + 1) (by omega) hj
          have h2 := k2.lip hg.s0 (i := j + 1) (j := j) hj (by omega)
          rw [far_adj'] at h1
          rw [far_symm, far_adj'] at h2
          omega
      obtain ⟨p, p1, p2⟩ := e42 (k := 200) (by omega) (fl.goodS hg)
      obtain ⟨q, q1, q2⟩ := e42 (k := 200) (by omega) (fh.goodS hg)
      rw [c1, Option.bind_some, p1, Option.bind_some, p2.2 fl, optG_true, q1, Option.bind_some, q2.2 fh, c3]
      simp only [beq_self_eq_true, cond_true, optG_true, awake200, Option.bind_some]
    · have hbd := hb2.down hg hs
      obtain ⟨d, d1, d2⟩ := e42 (k := 200) (by omega) s2
      have hd : d = false := by
        cases d with
        | false => rfl
        | true => exact absurd ((d2.1 rfl).some hg.s0) hs
      rw [hbd, if_pos (by simp), d1, hd]
      simp [awake200, optG]
  · have ev : v = false := by
      cases v with
      | false => rfl
      | true => exact absurd (hv2.1 rfl) hg
    have e : ((chk r).2.2 != 0) = true := by simpa using chk_bad hg
    rw [ev, if_pos (by simp), hb2.bad hg]
    simp [e, awake200, optG]
end Go.Proofs.Ytadejgckgnbaoaa
