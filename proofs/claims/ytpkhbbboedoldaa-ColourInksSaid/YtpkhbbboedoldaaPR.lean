/- What Paint of the program comes to, in plain words. -/
import Derived.Test.YtpkhbbboedoldaaPP
import Derived.Test.YtpkhbbboedoldaaPA
import Derived.Test.YtpkhbbboedoldaaDM
namespace Go.Proofs.Ytpkhbbboedoldaa
open Go Go.Sx
set_option linter.all false

theorem take_bang {own pre : List Int} (h : own.take pre.length = pre) {i : Nat} (hi : i < pre.length) (ho : pre.length ≤ own.length) : own[i]! = pre[i]! := by
  rw [getElem!_pos own i (by omega), getElem!_pos pre i hi]
  have e : pre[i] = (own.take pre.length)[i]'(by simp; omega) := by simp [h]
  rw [e]; simp

theorem e69L2 {m : Mp} {l : List Int} {c : S_colour_chart} (hc : ChartOk m l c.vec) (g : GoodM m) {pre own acc : List Int} {ink many : Int} (hN : pre.length < 6) (ho : pre.length ≤ own.length) (ht : own.take pre.length = pre)
    (hp : ∀ x ∈ pre, 0 ≤ x ∧ x < m.Inks) (hi : 0 ≤ ink ∧ ink < m.Inks) : ∀ (d n b : Nat), b + d = pre.length → d < n →
    F69L2 (pre.length : Int) (some c) (some c) (ink, acc, many, own) n (b : Int) = some (.inr (if clash (fun b => metB m l pre.length b) (likeB m ink) (pre.drop b) b then .inl () else .inr ())) := by
  intro d
  induction d with
  | zero =>
    intro n b hb hn
    obtain ⟨n, rfl⟩ : ∃ m, n = m + 1 := ⟨n - 1, by omega⟩
    rw [F69L2, if_neg (by simp; omega), List.drop_eq_nil_of_le (by omega)]; rfl
  | succ d ih =>
    intro n b hb hn
    obtain ⟨n, rfl⟩ : ∃ m, n = m + 1 := ⟨n - 1, by omega⟩
    have hl := hc.len
    have hlt : b < pre.length := by omega
    obtain ⟨row, hr⟩ : ∃ r, cutN c.vec (0 + ((pre.length : Nat) : Int).toNat * 6) 6 = some r := ⟨_, if_pos (by rw [Int.toNat_natCast]; omega)⟩
    have hrow := (cutN_some hr).2.2
    have e1 : row[0 + (b : Int).toNat * 1]? = some c.vec[pre.length * 6 + b]! := by
      rw [Int.toNat_natCast, Nat.mul_one, Nat.zero_add, get_bang (by omega)]
      have : row[b]! = c.vec[(0 + ((pre.length : Nat) : Int).toNat * 6) + b]! := by
        obtain ⟨h1, h2, h3⟩ := cutN_some hr
        rw [getElem!_pos row b (by omega), getElem!_pos c.vec _ (by rw [Int.toNat_natCast]; omega)]
        subst h2
        simp
      rw [this, Int.toNat_natCast, Nat.zero_add]
    have e2 : decide (c.vec[pre.length * 6 + b]! > 0) = metB m l pre.length b := by
      rw [Bool.eq_iff_iff, decide_eq_true_eq]
      exact chart_met hc hN (by omega) (by omega)
    have e3 : own[b]! = pre[b]! := take_bang ht hlt ho
    have e4 : pre.drop b = pre[b]! :: pre.drop (b + 1) := by
      rw [List.drop_eq_getElem_cons hlt, getElem!_pos pre b hlt]
    have hx := hp pre[b]! (by rw [getElem!_pos pre b hlt]; exact List.getElem_mem _)
    rw [F69L2, if_pos (by simp; omega)]
    dsimp only
    rw [idx_nat (by omega), Option.bind_some, need_true (by simp; omega), Option.bind_some, Option.bind_some, need_true (by omega), Option.bind_some, hr, Option.bind_some, need_true (by omega), Option.bind_some, e1, Option.bind_some, e2, e3, e4, clash]
    have ih' := ih n (b + 1) (by omega) (by omega)
    cases hm : metB m l pre.length b with
    | false =>
      simp only [optG_false, Option.bind_some, cond_false, Bool.false_eq_true, if_false, Bool.false_and, Bool.false_or]
      rw [w64_id (by omega) (by omega), show (b : Int) + 1 = ((b + 1 : Nat) : Int) from by omega, ih']
    | true =>
      rw [optG_true, e68 hc g hi hx, Option.bind_some]
      simp only [cond_true, Bool.true_and]
      cases hq : likeB m ink pre[b]! with
      | true => simp
      | false =>
        simp only [Bool.false_eq_true, if_false, Bool.false_or]
        rw [w64_id (by omega) (by omega), show (b : Int) + 1 = ((b + 1 : Nat) : Int) from by omega, ih']

theorem prune_if {acc : List Int} {x y : Int} : (cond (!(Nat.beq acc.length 0)) (decide (x ≥ y)) false) = decide (acc ≠ [] ∧ y ≤ x) := by
  cases acc with
  | nil => rfl
  | cons a as => simp [Nat.beq_eq]; intro _; rfl

/-- What the search leaves: the painting r, its number of inks, and the inks before this band. -/
structure St (N : Nat) (pre r : List Int) (o : List Int × Int × List Int) : Prop where
  res : o.1 = r
  num : r ≠ [] → o.2.1 = (cnt r : Int)
  len : o.2.2.length = N
  tak : o.2.2.take pre.length = pre

theorem e69 {m : Mp} {l : List Int} {c : S_colour_chart} (hc : ChartOk m l c.vec) (g : GoodM m) (hl : l.length ≤ 5) : ∀ (d k : Nat) (pre acc own : List Int) (u : Nat) (many : Int), 20 + d ≤ k → pre.length + d = l.length + 1 →
    own.length = l.length + 1 → own.take pre.length = pre → UsedOk u pre → (∀ x ∈ pre, 0 ≤ x ∧ x < m.Inks) → (acc ≠ [] → many = (cnt acc : Int)) →
    Ok (F69 k (pre.length : Int) (u : Int) acc many own m.Borders m.Step m.Heights m.Sides m.Inks m.Like (some c) (some c)) (St (l.length + 1) pre (mrg acc (srch (fine m l) m.Inks.toNat d pre))) := by
  have hi0 := g.i0
  have hi1 := g.i1
  intro d
  induction d with
  | zero =>
    intro k pre acc own u many hk hN ho ht hu hp ha
    obtain ⟨k, rfl⟩ : ∃ m, k = m + 1 := ⟨k - 1, by omega⟩
    have hown : own = pre := by rw [← ht, List.take_of_length_le (by omega)]
    have hne : pre ≠ [] := by intro h; simp [h] at hN
    rw [F69, B69, e70 hu.lt, Option.bind_some, hu.num, prune_if]
    by_cases hpr : acc ≠ [] ∧ cnt acc ≤ cnt pre
    · have := ha hpr.1
      rw [if_pos (decide_eq_true ⟨hpr.1, by omega⟩), ok_some, srch, mrg_ge hpr.1 (.inr hpr.2)]
      exact ⟨rfl, ha, ho, ht⟩
    · have hlt : acc = [] ∨ cnt pre < cnt acc := by
        by_cases h : acc = []
        · exact .inl h
        · exact .inr (Nat.lt_of_not_le fun h2 => hpr ⟨h, h2⟩)
      rw [if_neg (by
        rw [decide_eq_true_eq]
        rintro ⟨h, h2⟩
        have := ha h
        exact hpr ⟨h, by omega⟩), if_pos (by simp; omega), need_true (by omega), Option.bind_some]
      have e : own.take (List.replicate ((own.length : Nat) : Int).toNat (0 : Int)).length ++ (List.replicate ((own.length : Nat) : Int).toNat (0 : Int)).drop own.length = own := by
        rw [List.length_replicate, Int.toNat_natCast, List.take_of_length_le (by omega), List.drop_eq_nil_of_le (by simp), List.append_nil]
      rw [e, need_true (by omega), Option.bind_some, ok_some, srch, mrg_lt hne hlt]
      exact ⟨hown, fun _ => rfl, ho, ht⟩
  | succ d ih =>
    intro k pre acc own u many hk hN ho ht hu hp ha
    obtain ⟨k, rfl⟩ : ∃ m, k = m + 1 := ⟨k - 1, by omega⟩
    rw [F69, B69, e70 hu.lt, Option.bind_some, hu.num, prune_if]
    by_cases hpr : acc ≠ [] ∧ cnt acc ≤ cnt pre
    · have := ha hpr.1
      rw [if_pos (decide_eq_true ⟨hpr.1, by omega⟩), ok_some, srch_prune hpr.1 hpr.2]
      exact ⟨rfl, ha, ho, ht⟩
    · rw [if_neg (by
        rw [decide_eq_true_eq]
        rintro ⟨h, h2⟩
        have := ha h
        exact hpr ⟨h, by omega⟩), if_neg (by simp; omega)]
      have key : ∀ (j n i : Nat) (acc own : List Int) (many : Int), i + j = m.Inks.toNat → j < n → own.length = l.length + 1 → own.take pre.length = pre → (acc ≠ [] → many = (cnt acc : Int)) →
          Ok (F69L1 (k + 1) (F69 k) (pre.length : Int) (u : Int) m.Borders m.Step m.Heights m.Sides m.Inks m.Like (some c) (some c) n ((i : Int), acc, many, own)) fun o => ∃ s, o = .inr s ∧
            St (l.length + 1) pre (srchK (fun i => if fine m l pre i then srch (fine m l) m.Inks.toNat d (pre ++ [i]) else []) j i acc) s := by
        intro j
        induction j with
        | zero =>
          intro n i acc own many hi hn ho ht ha
          obtain ⟨n, rfl⟩ : ∃ m, n = m + 1 := ⟨n - 1, by omega⟩
          rw [F69L1, if_neg (by simp; omega), ok_some]
          exact ⟨_, rfl, rfl, ha, ho, ht⟩
        | succ j ihj =>
          intro n i acc own many hi hn ho ht ha
          obtain ⟨n, rfl⟩ : ∃ m, n = m + 1 := ⟨n - 1, by omega⟩
          have e0 := e69L2 hc g (acc := acc) (many := many) (by omega) (by omega) ht hp (ink := (i : Int)) (by omega) pre.length (k + 1) 0 (by omega) (by omega)
          rw [List.drop_zero, Int.natCast_zero] at e0
          rw [F69L1, if_pos (by simp; omega)]
          dsimp only
          rw [sub_take (by omega) (by omega), Option.bind_some, e0, Option.bind_some, outK_inr, srchK]
          have hf : fine m l pre i = !clash (fun b => metB m l pre.length b) (likeB m i) pre 0 := rfl
          cases hcl : clash (fun b => metB m l pre.length b) (likeB m i) pre 0 with
          | true =>
            rw [if_pos rfl, outK_inl, w64_id (by omega) (by omega), hf, hcl, Bool.not_true, if_neg (by simp), mrg_nil]
            exact ihj n (i + 1) acc own many (by omega) (by omega) ho ht ha
          | false =>
            rw [if_neg (by simp), outK_inr, idx_nat (by omega), Option.bind_some, need_true (by omega), Option.bind_some, hf, hcl, Bool.not_false, if_pos rfl, w64_id (by omega) (by omega),
              shl1 i (by omega), bits_or _ _ (by have := hu.lt; omega) (by have := (pop_or hu.lt (show i < 6 by omega)).2; have := Nat.pow_le_pow_right (n := 2) (by omega) (show i ≤ 6 by omega); omega), Int.toNat_natCast]
            have e5 : (pre.length : Int) + 1 = ((pre ++ [(i : Int)]).length : Int) := by simp
            have ht' : (own.set pre.length (i : Int)).take (pre ++ [(i : Int)]).length = pre ++ [(i : Int)] := by
              have h1 : own.set pre.length (i : Int) = own.take pre.length ++ (i : Int) :: own.drop (pre.length + 1) := List.set_eq_take_append_cons_drop .. |>.trans (if_pos (by omega))
              rw [h1, ht]
              simp only [List.length_append, List.length_singleton]
              rw [List.take_append, List.take_of_length_le (by omega)]
              simp
            rw [e5, ok_bind]
            refine (ih k (pre ++ [(i : Int)]) acc (own.set pre.length (i : Int)) (u ||| 2 ^ i) many (by omega) (by simp; omega) (by simpa using ho) ht' (hu.snoc (by omega)) ?_ ha).mono fun o hO => ?_
            · intro x hx
              rcases List.mem_append.1 hx with h | h
              · exact hp x h
              · rw [List.mem_singleton] at h; subst h; omega
            · rw [w64_id (by omega) (by omega), show (i : Int) + 1 = ((i + 1 : Nat) : Int) from by omega, hO.res]
              refine ihj n (i + 1) _ o.2.2 o.2.1 (by omega) (by omega) hO.len ?_ hO.num
              have h2 := congrArg (List.take pre.length) hO.tak
              rw [List.take_take, List.take_left' rfl, Nat.min_eq_left (by simp)] at h2
              exact h2
      rw [ok_bind]
      have k0 := key m.Inks.toNat (k + 1) 0 acc own many (by omega) (by omega) ho ht ha
      rw [Int.natCast_zero] at k0
      refine k0.mono fun o hO => ?_
      obtain ⟨s, rfl, hs⟩ := hO
      rw [outK_inr, ok_some]
      have e6 : mrg acc (srch (fine m l) m.Inks.toNat (d + 1) pre) = srchK (fun i => if fine m l pre i then srch (fine m l) m.Inks.toNat d (pre ++ [i]) else []) m.Inks.toNat 0 acc := by
        rw [srch, ← srchK_mrg, mrg_nil]
      rw [e6]
      exact hs

theorem e31 {k : Nat} (hk : 30 ≤ k) {m : Mp} {l : List Int} : F31 k m l = some (paints m l) := by
  unfold F31 paints
  by_cases h : (chkLeg m l).2 = 0
  · obtain ⟨g, gl⟩ := chkLeg_good.1 h
    have hl : l.length ≤ 5 := by have := g.b1; have := gl.len; omega
    obtain ⟨v, h1, h2⟩ := e64 (k := k) (by omega) g gl
    rw [h1, Option.bind_some, if_neg (by simp), if_pos h, w64_id (by omega) (by omega), need_true (by omega), Option.bind_some]
    obtain ⟨o, h3, h4⟩ := e69 (c := ⟨m, l, alls m l, v⟩) h2 g hl (l.length + 1) k [] [] (List.replicate ((l.length : Int) + 1).toNat 0) 0 0 (by omega) (by simp) (by rw [List.length_replicate]; omega) (by simp) used_nil (by simp) (by simp)
    rw [nil_mrg] at h4
    simp only [List.length_nil, Int.natCast_zero] at h3
    rw [h3, Option.bind_some, h4.res]
    change (if Nat.beq (paintS m l).length 0 = true then _ else _) = _
    by_cases hn : paintS m l = []
    · rw [if_pos (by simp [hn]), if_pos hn]
    · rw [if_neg (by simpa using hn), if_neg hn, h4.num hn]; rfl
  · rw [e64_bad (by omega) h, Option.bind_some, if_pos (by simpa using h), if_neg h]
end Go.Proofs.Ytpkhbbboedoldaa
namespace Go.Proofs.Ytpkhbbboedoldaa
open Go Go.Sx
set_option linter.all false

theorem any_accN {N : Nat} {L : Nat → (Int × Bool) → Option (Bool ⊕ Bool)} {p : Nat → Bool} (h0 : ∀ n (c : Int) acc, ¬ c < (N : Int) → L (n + 1) (c, acc) = some (.inr acc))
    (h1 : ∀ n (c : Nat) acc, c < N → L (n + 1) ((c : Int), acc) = L n ((c : Int) + 1, acc || p c)) : ∀ (d n b : Nat) (acc : Bool), b + d = N → d < n → L n ((b : Int), acc) = some (.inr (acc || anyN p d b)) := by
  intro d
  induction d with
  | zero =>
    intro n b acc hb hn
    obtain ⟨n, rfl⟩ : ∃ m, n = m + 1 := ⟨n - 1, by omega⟩
    rw [h0 n b acc (by omega)]; simp [anyN]
  | succ d ih =>
    intro n b acc hb hn
    obtain ⟨n, rfl⟩ : ∃ m, n = m + 1 := ⟨n - 1, by omega⟩
    rw [h1 n b acc (by omega), anyN, show (b : Int) + 1 = ((b + 1 : Nat) : Int) from by omega, ih n (b + 1) _ (by omega) (by omega), Bool.or_assoc]

theorem e33r {m : Mp} {l inks : List Int} {c : S_colour_chart} (hc : ChartOk m l c.vec) (g : GoodM m) (hi : ∀ x ∈ inks, 0 ≤ x ∧ x < m.Inks) {a b : Nat} (ha : a < inks.length) (hb : b < inks.length) (acc : Bool) :
    F33r a b inks (some c) acc = some (acc || likeB m inks[a]! inks[b]!) := by
  unfold F33r
  have h1 := hi inks[a]! (by rw [getElem!_pos inks a ha]; exact List.getElem_mem _)
  have h2 := hi inks[b]! (by rw [getElem!_pos inks b hb]; exact List.getElem_mem _)
  cases acc with
  | true => rfl
  | false =>
    simp only [Bool.not_false, optG_true]
    rw [idx_nat ha, Option.bind_some, idx_nat hb, Option.bind_some, e68 hc g h1 h2]; rfl

def sideB (m : Mp) (inks : List Int) (a0 a1 b0 b1 : Nat) : Bool := anyN (fun i => anyN (fun j => decide (a0 + i ≠ b0 + j) && likeB m inks[a0 + i]! inks[b0 + j]!) (b1 + 1 - b0) 0) (a1 + 1 - a0) 0
theorem e88v {k : Nat} (hk : 20 ≤ k) {m : Mp} {l inks : List Int} {c : S_colour_chart} (hc : ChartOk m l c.vec) (g : GoodM m) (hi : ∀ x ∈ inks, 0 ≤ x ∧ x < m.Inks) {s : Pr} {a0 a1 b0 b1 : Nat} (hA : 0 ≤ s.A ∧ s.A < c.bands.length) (hB : 0 ≤ s.B ∧ s.B < c.bands.length)
    (h1 : c.bands[s.A.toNat]! = ⟨a0, a1⟩) (h2 : c.bands[s.B.toNat]! = ⟨b0, b1⟩) (ha0 : a0 ≤ a1) (ha1 : a1 < inks.length) (hb0 : b0 ≤ b1) (hb1 : b1 < inks.length) (hn : inks.length ≤ 6) :
    F88v1 k inks (some c) false (some c) s.A s.B = some (sideB m inks a0 a1 b0 b1) := by
  unfold F88v1 sideB
  rw [Option.bind_some, idx_bang hA.1 hA.2, h1, Option.bind_some, Option.bind_some, idx_bang hB.1 hB.2, h2, Option.bind_some]
  have wa : w64 (w64 ((a1 : Int) - a0) + 1) = ((a1 + 1 - a0 : Nat) : Int) := by rw [w64_id (n := (a1 : Int) - a0) (by omega) (by omega), w64_id (by omega) (by omega)]; omega
  have wb : w64 (w64 ((b1 : Int) - b0) + 1) = ((b1 + 1 - b0 : Nat) : Int) := by rw [w64_id (n := (b1 : Int) - b0) (by omega) (by omega), w64_id (by omega) (by omega)]; omega
  have e := any_accN (N := a1 + 1 - a0) (L := F88v1L1 k inks (some c) (⟨a0, a1⟩ : Sp) ⟨b0, b1⟩) (p := fun i => anyN (fun j => decide (a0 + i ≠ b0 + j) && likeB m inks[a0 + i]! inks[b0 + j]!) (b1 + 1 - b0) 0)
    (fun n x acc h => by rw [F88v1L1, if_neg (by rw [decide_eq_true_eq]; dsimp only; rw [wa]; omega)])
    (fun n i acc h => by
      rw [F88v1L1, if_pos (by rw [decide_eq_true_eq]; dsimp only; rw [wa]; omega)]
      have e2 := any_accN (N := b1 + 1 - b0) (L := F88v1L2 inks (some c) (⟨a0, a1⟩ : Sp) ⟨b0, b1⟩ ((i : Int), acc)) (p := fun j => decide (a0 + i ≠ b0 + j) && likeB m inks[a0 + i]! inks[b0 + j]!)
        (fun n x acc h => by rw [F88v1L2, if_neg (by rw [decide_eq_true_eq]; dsimp only; rw [wb]; omega)])
        (fun n j acc2 h => by
          rw [F88v1L2, if_pos (by rw [decide_eq_true_eq]; dsimp only; rw [wb]; omega)]
          dsimp only
          rw [w64_id (show -9223372036854775808 ≤ (a0 : Int) + i by omega) (by omega), w64_id (show -9223372036854775808 ≤ (b0 : Int) + j by omega) (by omega), w64_id (show -9223372036854775808 ≤ (j : Int) + 1 by omega) (by omega)]
          rw [show (a0 : Int) + i = ((a0 + i : Nat) : Int) from by omega, show (b0 : Int) + j = ((b0 + j : Nat) : Int) from by omega, e33r hc g hi (by omega) (by omega)]
          by_cases hab : a0 + i = b0 + j
          · have hb : (((a0 + i : Nat) : Int) != ((b0 + j : Nat) : Int)) = false := by simp; omega
            rw [hb, optG_false, Option.bind_some]
            simp [hab]
          · have hb : (((a0 + i : Nat) : Int) != ((b0 + j : Nat) : Int)) = true := by simp; omega
            rw [hb, optG_true, Option.bind_some]
            simp [hab]) (b1 + 1 - b0) k 0 acc (by omega) (by omega)
      rw [Int.natCast_zero] at e2
      dsimp only
      rw [e2, Option.bind_some, outK_inr, w64_id (by omega) (by omega)]) (a1 + 1 - a0) k 0 false (by omega) (by omega)
  rw [Int.natCast_zero] at e
  rw [e, Option.bind_some, outK_inr, Bool.false_or]

theorem sideB_wrong {m : Mp} {l inks : List Int} {s : Pr} {a0 a1 b0 b1 : Nat} (h1 : (alls m l)[s.A.toNat]! = ⟨a0, a1⟩) (h2 : (alls m l)[s.B.toNat]! = ⟨b0, b1⟩) (ha1 : a1 < inks.length) (hb1 : b1 < inks.length) :
    sideB m inks a0 a1 b0 b1 = wrongB m l inks s := by
  rw [Bool.eq_iff_iff, wrongB_iff]
  unfold sideB
  rw [anyN_iff]
  have hbe : ∀ p q : Nat, besideB (alls m l) s p q = true ↔ (a0 ≤ p ∧ p ≤ a1 ∧ b0 ≤ q ∧ q ≤ b1) ∨ (a0 ≤ q ∧ q ≤ a1 ∧ b0 ≤ p ∧ p ≤ b1) := by
    intro p q
    unfold besideB okN
    rw [h1, h2]
    simp only [Bool.or_eq_true, Bool.and_eq_true, decide_eq_true_eq]
    omega
  constructor
  · rintro ⟨i, _, h3, h4⟩
    obtain ⟨j, _, h5, h6⟩ := (anyN_iff _ _).1 h4
    rw [Bool.and_eq_true, decide_eq_true_eq] at h6
    rcases Nat.lt_or_gt_of_ne h6.1 with h | h
    · exact ⟨b0 + j, a0 + i, h, by omega, by rw [likeB_comm]; exact h6.2, (hbe _ _).2 (.inr (by omega))⟩
    · exact ⟨a0 + i, b0 + j, h, by omega, h6.2, (hbe _ _).2 (.inl (by omega))⟩
  · rintro ⟨a, b, h3, h4, h5, h6⟩
    rcases (hbe _ _).1 h6 with h | h
    · refine ⟨a - a0, by omega, by omega, (anyN_iff _ _).2 ⟨b - b0, by omega, by omega, ?_⟩⟩
      rw [show a0 + (a - a0) = a from by omega, show b0 + (b - b0) = b from by omega, h5]; simp; omega
    · refine ⟨b - a0, by omega, by omega, (anyN_iff _ _).2 ⟨a - b0, by omega, by omega, ?_⟩⟩
      rw [show a0 + (b - a0) = b from by omega, show b0 + (a - b0) = a from by omega, likeB_comm, h5]; simp; omega

theorem alls_at {m : Mp} {l : List Int} {i : Int} (h0 : 0 ≤ i) (h : i < m.Heights.length) : (alls m l)[i.toNat]! = ⟨(band l m.Heights[i.toNat]!.Lo : Int), (band l m.Heights[i.toNat]!.Hi : Int)⟩ := by
  rw [getElem!_pos _ i.toNat (by simp [alls]; omega), getElem!_pos _ i.toNat (by omega)]; simp [alls, bandS]
theorem hei_at {m : Mp} (g : GoodM m) {i : Int} (h0 : 0 ≤ i) (h : i < m.Heights.length) : 0 ≤ m.Heights[i.toNat]!.Lo ∧ m.Heights[i.toNat]!.Lo ≤ m.Heights[i.toNat]!.Hi ∧ m.Heights[i.toNat]!.Hi ≤ 9000 := by
  refine g.hei _ ?_
  rw [getElem!_pos _ i.toNat (by omega)]; exact List.getElem_mem _
theorem e33 {k : Nat} (hk : 20 ≤ k) {m : Mp} {l inks : List Int} : F33 k m l inks = some (mist m l inks) := by
  unfold F33 mist
  by_cases h : (chkLeg m l).2 = 0
  · obtain ⟨g, gl⟩ := chkLeg_good.1 h
    have hl : l.length ≤ 5 := by have := g.b1; have := gl.len; omega
    have hi0 := g.i0
    have hi1 := g.i1
    obtain ⟨v, h1, h2⟩ := e64 (k := k) (by omega) g gl
    rw [h1, Option.bind_some, if_neg (by simp), w64_id (by omega) (by omega)]
    by_cases hn : inks.length = l.length + 1
    · rw [if_neg (by simp; omega), w64_id (by omega) (by omega), e52 (by omega) (by omega), Option.bind_some]
      have hbd : (inks.any fun n => decide (n < 0) || decide (n > m.Inks - 1)) = inks.any (badInk m) := rfl
      have hE : inksE m l inks = if inks.any (badInk m) then 4 else 0 := by unfold inksE; rw [if_pos h, if_pos hn]
      rw [hbd, hE]
      cases hb : inks.any (badInk m) with
      | true => rfl
      | false =>
        have hgood := inksE_good.1 (hE.trans (by rw [hb]; rfl))
        rw [if_neg (by simp), if_pos (by simp), coll_loop (l := m.Sides) (L := F33L1 k m inks (some ⟨m, l, alls m l, v⟩, 0)) (p := wrongB m l inks) g.s1
          (fun n c acc hc => by rw [F33L1, if_neg (by simpa using hc)])
          (fun n c acc x hx hc0 hc1 hi ha => by
            have hs := g.sid x hx
            have hs1 := g.s1
            rw [F33L1, if_pos (by simpa using hc1)]
            dsimp only
            have hA := hei_at g hs.1.1 hs.1.2
            have hB := hei_at g hs.2.1.1 hs.2.1.2
            have hal : (alls m l).length = m.Heights.length := by simp [alls]
            have q1 := band_mono l hA.2.1
            have q2 := band_mono l hB.2.1
            have q3 := band_le l m.Heights[x.A.toNat]!.Hi
            have q4 := band_le l m.Heights[x.B.toNat]!.Hi
            rw [hi, Option.bind_some, F72v2, Option.bind_some]
            dsimp only
            rw [e88v hk (c := ⟨m, l, alls m l, v⟩) h2 g hgood.2.2.2 (s := x) (by dsimp only; omega) (by dsimp only; omega) (alls_at hs.1.1 hs.1.2) (alls_at hs.2.1.1 hs.2.1.2) (by omega) (by omega) (by omega) (by omega) (by omega),
              sideB_wrong (alls_at hs.1.1 hs.1.2) (alls_at hs.2.1.1 hs.2.1.2) (by omega) (by omega), Option.bind_some, w64_id (by omega) (by omega), need_true (by simp; omega), Option.bind_some]) m.Sides [] k 0 [] rfl rfl (by have := g.s1; omega) (by simp), Option.bind_some, outK_inr, List.nil_append]
    · have hE : inksE m l inks = 3 := by unfold inksE; rw [if_pos h, if_neg hn]
      rw [if_pos (by simp; omega), hE]; rfl
  · have hE : inksE m l inks = (chkLeg m l).2 := by unfold inksE; rw [if_neg h]
    rw [e64_bad (by omega) h, Option.bind_some, if_pos (by simpa using h), hE, if_neg h]

theorem mist_len (m : Mp) (l inks : List Int) : (mist m l inks).1.length ≤ 10 := by
  unfold mist
  by_cases h : inksE m l inks = 0
  · rw [if_pos h]
    have := wrongs_len (wrongB m l inks) m.Sides 0
    have := (inksE_good.1 h).1.s1
    dsimp only; omega
  · rw [if_neg h]; simp
theorem paints_len (m : Mp) (l : List Int) : (paints m l).1.length ≤ 6 := by
  unfold paints
  by_cases h : (chkLeg m l).2 = 0
  · rw [if_pos h]
    obtain ⟨g, gl⟩ := chkLeg_good.1 h
    have hl : l.length ≤ 5 := by have := g.b1; have := gl.len; omega
    by_cases hn : paintS m l = []
    · rw [if_pos hn]; simp
    · rw [if_neg hn]; exact paintS_len hl
  · rw [if_neg h]; simp
theorem law4 (m : Mp) (l inks : List Int) : F4 200 m l inks = some true := by
  have h1 := paints_len m l
  have h2 := mist_len m l inks
  unfold F4
  rw [e31 (by omega), Option.bind_some, e32 (by omega), Option.bind_some, e26 (by omega) (by omega), Option.bind_some, e33 (by omega), e34 (by omega)]
  simp only [bne_self_eq_false, cond_false, Bool.not_true, Bool.false_eq_true, if_false, Option.bind_some]
  rw [e26 (by omega) (by omega), Option.bind_some, beq_self_eq_true, cond_true, optG_true, awake200]
  rfl
end Go.Proofs.Ytpkhbbboedoldaa
