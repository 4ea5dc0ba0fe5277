/- What Paint of the program comes to, in plain words. -/
import Derived.Test.YtpkhbbboedoldaaPQ
namespace Go.Proofs.Ytpkhbbboedoldaa
open Go Go.Sx
set_option linter.all false

theorem take_bang {own pre : List Int} (h : own.take pre.length = pre) {i : Nat} (hi : i < pre.length) (ho : pre.length ≤ own.length) : own[i]! = pre[i]! := by
  rw [getElem!_pos own i (by omega), getElem!_pos pre i hi]
  have e : pre[i] = (own.take pre.length)[i]'(by simp; omega) := by simp [h]
  rw [e]; simp

theorem e69L2 {m : Mp} {l : List Int} {c : S_colour_chart} (hc : ChartOk m l c.vec) (g : GoodM m) {pre own acc : List Int} {ink many : Int} (hN : pre.length < 6) (ho : pre.length ≤ own.length) (ht : own.take pre.length = pre)
    (hp : ∀ x ∈ pre, 0 ≤ x ∧ x < m.Inks) (hi : 0 ≤ ink ∧ ink < m.Inks) : ∀ (d n b : Nat), b + d = pre.length → d < n →
    F69L2 (pre.length : Int) (some c) (some c) (ink, acc, many, own) n (b : Int) = some (.inr (if clash (fun b => metB m l pre.length b) (likeB m ink) (pre.drop b) b then .inl () else .inr ())) := by
  intro d
  induction d with
  | zero =>
    intro n b hb hn
    obtain ⟨n, rfl⟩ : ∃ m, n = m + 1 := ⟨n - 1, by omega⟩
    rw [F69L2, if_neg (by simp; omega), List.drop_eq_nil_of_le (by omega)]; rfl
  | succ d ih =>
    intro n b hb hn
    obtain ⟨n, rfl⟩ : ∃ m, n = m + 1 := ⟨n - 1, by omega⟩
    have hl := hc.len
    have hlt : b < pre.length := by omega
    obtain ⟨row, hr⟩ : ∃ r, cutN c.vec (0 + ((pre.length : Nat) : Int).toNat * 6) 6 = some r := ⟨_, if_pos (by rw [Int.toNat_natCast]; omega)⟩
    have hrow := (cutN_some hr).2.2
    have e1 : row[0 + (b : Int).toNat * 1]? = some c.vec[pre.length * 6 + b]! := by
      rw [Int.toNat_natCast, Nat.mul_one, Nat.zero_add, get_bang (by omega)]
      have : row[b]! = c.vec[(0 + ((pre.length : Nat) : Int).toNat * 6) + b]! := by
        obtain ⟨h1, h2, h3⟩ := cutN_some hr
        rw [getElem!_pos row b (by omega), getElem!_pos c.vec _ (by rw [Int.toNat_natCast]; omega)]
        subst h2
        simp
      rw [this, Int.toNat_natCast, Nat.zero_add]
    have e2 : decide (c.vec[pre.length * 6 + b]! > 0) = metB m l pre.length b := by
      rw [Bool.eq_iff_iff, decide_eq_true_eq]
      exact chart_met hc hN (by omega) (by omega)
    have e3 : own[b]! = pre[b]! := take_bang ht hlt ho
    have e4 : pre.drop b = pre[b]! :: pre.drop (b + 1) := by
      rw [List.drop_eq_getElem_cons hlt, getElem!_pos pre b hlt]
    have hx := hp pre[b]! (by rw [getElem!_pos pre b hlt]; exact List.getElem_mem _)
    rw [F69L2, if_pos (by simp; omega)]
    dsimp only
    rw [idx_nat (by omega), Option.bind_some, need_true (by simp; omega), Option.bind_some, Option.bind_some, need_true (by omega), Option.bind_some, hr, Option.bind_some, need_true (by omega), Option.bind_some, e1, Option.bind_some, e2, e3, e4, clash]
    have ih' := ih n (b + 1) (by omega) (by omega)
    cases hm : metB m l pre.length b with
    | false =>
      simp only [optG_false, Option.bind_some, cond_false, Bool.false_eq_true, if_false, Bool.false_and, Bool.false_or]
      rw [w64_id (by omega) (by omega), show (b : Int) + 1 = ((b + 1 : Nat) : Int) from by omega, ih']
    | true =>
      rw [optG_true, e68 hc g hi hx, Option.bind_some]
      simp only [cond_true, Bool.true_and]
      cases hq : likeB m ink pre[b]! with
      | true => simp
      | false =>
        simp only [Bool.false_eq_true, if_false, Bool.false_or]
        rw [w64_id (by omega) (by omega), show (b : Int) + 1 = ((b + 1 : Nat) : Int) from by omega, ih']

theorem prune_if {acc : List Int} {x y : Int} : (cond (!(Nat.beq acc.length 0)) (decide (x ≥ y)) false) = decide (acc ≠ [] ∧ y ≤ x) := by
  cases acc with
  | nil => rfl
  | cons a as => simp [Nat.beq_eq]; intro _; rfl

/-- What the search leaves: the painting r, its number of inks, and the inks before this band. -/
structure St (N : Nat) (pre r : List Int) (o : List Int × Int × List Int) : Prop where
  res : o.1 = r
  num : r ≠ [] → o.2.1 = (cnt r : Int)
  len : o.2.2.length = N
  tak : o.2.2.take pre.length = pre

theorem e69 {m : Mp} {l : List Int} {c : S_colour_chart} (hc : ChartOk m l c.vec) (g : GoodM m) (hl : l.length ≤ 5) : ∀ (d k : Nat) (pre acc own : List Int) (u : Nat) (many : Int), 20 + d ≤ k → pre.length + d = l.length + 1 →
    own.length = l.length + 1 → own.take pre.length = pre → UsedOk u pre → (∀ x ∈ pre, 0 ≤ x ∧ x < m.Inks) → (acc ≠ [] → many = (cnt acc : Int)) →
    Ok (F69 k (pre.length : Int) (u : Int) acc many own m.Borders m.Step m.Heights m.Sides m.Inks m.Like (some c) (some c)) (St (l.length + 1) pre (mrg acc (srch (fine m l) m.Inks.toNat d pre))) := by
  have hi0 := g.i0
  have hi1 := g.i1
  intro d
  induction d with
  | zero =>
    intro k pre acc own u many hk hN ho ht hu hp ha
    obtain ⟨k, rfl⟩ : ∃ m, k = m + 1 := ⟨k - 1, by omega⟩
    have hown : own = pre := by rw [← ht, List.take_of_length_le (by omega)]
    have hne : pre ≠ [] := by intro h; simp [h] at hN
    rw [F69, B69, e70 hu.lt, Option.bind_some, hu.num, prune_if]
    by_cases hpr : acc ≠ [] ∧ cnt acc ≤ cnt pre
    · have := ha hpr.1
      rw [if_pos (decide_eq_true ⟨hpr.1, by omega⟩), ok_some, srch, mrg_ge hpr.1 (.inr hpr.2)]
      exact ⟨rfl, ha, ho, ht⟩
    · have hlt : acc = [] ∨ cnt pre < cnt acc := by
        by_cases h : acc = []
        · exact .inl h
        · exact .inr (Nat.lt_of_not_le fun h2 => hpr ⟨h, h2⟩)
      rw [if_neg (by
        rw [decide_eq_true_eq]
        rintro ⟨h, h2⟩
        have := ha h
        exact hpr ⟨h, by omega⟩), if_pos (by simp; omega), need_true (by omega), Option.bind_some]
      have e : own.take (List.replicate ((own.length : Nat) : Int).toNat (0 : Int)).length ++ (List.replicate ((own.length : Nat) : Int).toNat (0 : Int)).drop own.length = own := by
        rw [List.length_replicate, Int.toNat_natCast, List.take_of_length_le (by omega), List.drop_eq_nil_of_le (by simp), List.append_nil]
      rw [e, need_true (by omega), Option.bind_some, ok_some, srch, mrg_lt hne hlt]
      exact ⟨hown, fun _ => rfl, ho, ht⟩
  | succ d ih =>
    intro k pre acc own u many hk hN ho ht hu hp ha
    obtain ⟨k, rfl⟩ : ∃ m, k = m + 1 := ⟨k - 1, by omega⟩
    rw [F69, B69, e70 hu.lt, Option.bind_some, hu.num, prune_if]
    by_cases hpr : acc ≠ [] ∧ cnt acc ≤ cnt pre
    · have := ha hpr.1
      rw [if_pos (decide_eq_true ⟨hpr.1, by omega⟩), ok_some, srch_prune hpr.1 hpr.2]
      exact ⟨rfl, ha, ho, ht⟩
    · rw [if_neg (by
        rw [decide_eq_true_eq]
        rintro ⟨h, h2⟩
        have := ha h
        exact hpr ⟨h, by omega⟩), if_neg (by simp; omega)]
      have key : ∀ (j n i : Nat) (acc own : List Int) (many : Int), i + j = m.Inks.toNat → j < n → own.length = l.length + 1 → own.take pre.length = pre → (acc ≠ [] → many = (cnt acc : Int)) →
          Ok (F69L1 (k + 1) (F69 k) (pre.length : Int) (u : Int) m.Borders m.Step m.Heights m.Sides m.Inks m.Like (some c) (some c) n ((i : Int), acc, many, own)) fun o => ∃ s, o = .inr s ∧
            St (l.length + 1) pre (srchK (fun i => if fine m l pre i then srch (fine m l) m.Inks.toNat d (pre ++ [i]) else []) j i acc) s := by
        intro j
        induction j with
        | zero =>
          intro n i acc own many hi hn ho ht ha
          obtain ⟨n, rfl⟩ : ∃ m, n = m + 1 := ⟨n - 1, by omega⟩
          rw [F69L1, if_neg (by simp; omega), ok_some]
          exact ⟨_, rfl, rfl, ha, ho, ht⟩
        | succ j ihj =>
          intro n i acc own many hi hn ho ht ha
          obtain ⟨n, rfl⟩ : ∃ m, n = m + 1 := ⟨n - 1, by omega⟩
          have e0 := e69L2 hc g (acc := acc) (many := many) (by omega) (by omega) ht hp (ink := (i : Int)) (by omega) pre.length (k + 1) 0 (by omega) (by omega)
          rw [List.drop_zero, Int.natCast_zero] at e0
          rw [F69L1, if_pos (by simp; omega)]
          dsimp only
          rw [sub_take (by omega) (by omega), Option.bind_some, e0, Option.bind_some, outK_inr, srchK]
          have hf : fine m l pre i = !clash (fun b => metB m l pre.length b) (likeB m i) pre 0 := rfl
          cases hcl : clash (fun b => metB m l pre.length b) (likeB m i) pre 0 with
          | true =>
            rw [if_pos rfl, outK_inl, w64_id (by omega) (by omega), hf, hcl, Bool.not_true, if_neg (by simp), mrg_nil]
            exact ihj n (i + 1) acc own many (by omega) (by omega) ho ht ha
          | false =>
            rw [if_neg (by simp), outK_inr, idx_nat (by omega), Option.bind_some, need_true (by omega), Option.bind_some, hf, hcl, Bool.not_false, if_pos rfl, w64_id (by omega) (by omega),
              shl1 i (by omega), bits_or _ _ (by have := hu.lt; omega) (by have := (pop_or hu.lt (show i < 6 by omega)).2; have := Nat.pow_le_pow_right (n := 2) (by omega) (show i ≤ 6 by omega); omega), Int.toNat_natCast]
            have e5 : (pre.length : Int) + 1 = ((pre ++ [(i : Int)]).length : Int) := by simp
            have ht' : (own.set pre.length (i : Int)).take (pre ++ [(i : Int)]).length = pre ++ [(i : Int)] := by
              have h1 : own.set pre.length (i : Int) = own.take pre.length ++ (i : Int) :: own.drop (pre.length + 1) := List.set_eq_take_append_cons_drop .. |>.trans (if_pos (by omega))
              rw [h1, ht]
              simp only [List.length_append, List.length_singleton]
              rw [List.take_append, List.take_of_length_le (by omega)]
              simp
            rw [e5, ok_bind]
            refine (ih k (pre ++ [(i : Int)]) acc (own.set pre.length (i : Int)) (u ||| 2 ^ i) many (by omega) (by simp; omega) (by simpa using ho) ht' (hu.snoc (by omega)) ?_ ha).mono fun o hO => ?_
            · intro x hx
              rcases List.mem_append.1 hx with h | h
              · exact hp x h
              · rw [List.mem_singleton] at h; subst h; omega
            · rw [w64_id (by omega) (by omega), show (i : Int) + 1 = ((i + 1 : Nat) : Int) from by omega, hO.res]
              refine ihj n (i + 1) _ o.2.2 o.2.1 (by omega) (by omega) hO.len ?_ hO.num
              have h2 := congrArg (List.take pre.length) hO.tak
              rw [List.take_take, List.take_left' rfl, Nat.min_eq_left (by simp)] at h2
              exact h2
      rw [ok_bind]
      have k0 := key m.Inks.toNat (k + 1) 0 acc own many (by omega) (by omega) ho ht ha
      rw [Int.natCast_zero] at k0
      refine k0.mono fun o hO => ?_
      obtain ⟨s, rfl, hs⟩ := hO
      rw [outK_inr, ok_some]
      have e6 : mrg acc (srch (fine m l) m.Inks.toNat (d + 1) pre) = srchK (fun i => if fine m l pre i then srch (fine m l) m.Inks.toNat d (pre ++ [i]) else []) m.Inks.toNat 0 acc := by
        rw [srch, ← srchK_mrg, mrg_nil]
      rw [e6]
      exact hs

theorem e31 {k : Nat} (hk : 30 ≤ k) {m : Mp} {l : List Int} : F31 k m l = some (paints m l) := by
  unfold F31 paints
  by_cases h : (chkLeg m l).2 = 0
  · obtain ⟨g, gl⟩ := chkLeg_good.1 h
    have hl : l.length ≤ 5 := by have := g.b1; have := gl.len; omega
    obtain ⟨v, h1, h2⟩ := e64 (k := k) (by omega) g gl
    rw [h1, Option.bind_some, if_neg (by simp), if_pos h, w64_id (by omega) (by omega), need_true (by omega), Option.bind_some]
    obtain ⟨o, h3, h4⟩ := e69 (c := ⟨m, l, alls m l, v⟩) h2 g hl (l.length + 1) k [] [] (List.replicate ((l.length : Int) + 1).toNat 0) 0 0 (by omega) (by simp) (by rw [List.length_replicate]; omega) (by simp) used_nil (by simp) (by simp)
    rw [nil_mrg] at h4
    simp only [List.length_nil, Int.natCast_zero] at h3
    rw [h3, Option.bind_some, h4.res]
    change (if Nat.beq (paintS m l).length 0 = true then _ else _) = _
    by_cases hn : paintS m l = []
    · rw [if_pos (by simp [hn]), if_pos hn]
    · rw [if_neg (by simpa using hn), if_neg hn, h4.num hn]; rfl
  · rw [e64_bad (by omega) h, Option.bind_some, if_pos (by simpa using h), if_neg h]
end Go.Proofs.Ytpkhbbboedoldaa
