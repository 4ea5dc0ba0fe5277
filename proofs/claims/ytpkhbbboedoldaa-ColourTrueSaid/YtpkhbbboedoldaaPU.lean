/- What Mistaken of the program comes to, in plain words, and the law of Paint and Mistaken. -/
import Derived.Test.YtpkhbbboedoldaaPT
import Derived.Test.YtpkhbbboedoldaaPR
import Derived.Test.YtpkhbbboedoldaaPA
import Derived.Test.YtpkhbbboedoldaaDM
namespace Go.Proofs.Ytpkhbbboedoldaa
open Go Go.Sx
set_option linter.all false

theorem any_accN {N : Nat} {L : Nat → (Int × Bool) → Option (Bool ⊕ Bool)} {p : Nat → Bool} (h0 : ∀ n (c : Int) acc, ¬ c < (N : Int) → L (n + 1) (c, acc) = some (.inr acc))
    (h1 : ∀ n (c : Nat) acc, c < N → L (n + 1) ((c : Int), acc) = L n ((c : Int) + 1, acc || p c)) : ∀ (d n b : Nat) (acc : Bool), b + d = N → d < n → L n ((b : Int), acc) = some (.inr (acc || anyN p d b)) := by
  intro d
  induction d with
  | zero =>
    intro n b acc hb hn
    obtain ⟨n, rfl⟩ : ∃ m, n = m + 1 := ⟨n - 1, by omega⟩
    rw [h0 n b acc (by omega)]; simp [anyN]
  | succ d ih =>
    intro n b acc hb hn
    obtain ⟨n, rfl⟩ : ∃ m, n = m + 1 := ⟨n - 1, by omega⟩
    rw [h1 n b acc (by omega), anyN, show (b : Int) + 1 = ((b + 1 : Nat) : Int) from by omega, ih n (b + 1) _ (by omega) (by omega), Bool.or_assoc]

theorem e33r {m : Mp} {l inks : List Int} {c : S_colour_chart} (hc : ChartOk m l c.vec) (g : GoodM m) (hi : ∀ x ∈ inks, 0 ≤ x ∧ x < m.Inks) {a b : Nat} (ha : a < inks.length) (hb : b < inks.length) (acc : Bool) :
    F33r a b inks (some c) acc = some (acc || likeB m inks[a]! inks[b]!) := by
  unfold F33r
  have h1 := hi inks[a]! (by rw [getElem!_pos inks a ha]; exact List.getElem_mem _)
  have h2 := hi inks[b]! (by rw [getElem!_pos inks b hb]; exact List.getElem_mem _)
  cases acc with
  | true => rfl
  | false =>
    simp only [Bool.not_false, optG_true]
    rw [idx_nat ha, Option.bind_some, idx_nat hb, Option.bind_some, e68 hc g h1 h2]; rfl

def sideB (m : Mp) (inks : List Int) (a0 a1 b0 b1 : Nat) : Bool := anyN (fun i => anyN (fun j => decide (a0 + i ≠ b0 + j) && likeB m inks[a0 + i]! inks[b0 + j]!) (b1 + 1 - b0) 0) (a1 + 1 - a0) 0
theorem e88v {k : Nat} (hk : 20 ≤ k) {m : Mp} {l inks : List Int} {c : S_colour_chart} (hc : ChartOk m l c.vec) (g : GoodM m) (hi : ∀ x ∈ inks, 0 ≤ x ∧ x < m.Inks) {s : Pr} {a0 a1 b0 b1 : Nat} (hA : 0 ≤ s.A ∧ s.A < c.bands.length) (hB : 0 ≤ s.B ∧ s.B < c.bands.length)
    (h1 : c.bands[s.A.toNat]! = ⟨a0, a1⟩) (h2 : c.bands[s.B.toNat]! = ⟨b0, b1⟩) (ha0 : a0 ≤ a1) (ha1 : a1 < inks.length) (hb0 : b0 ≤ b1) (hb1 : b1 < inks.length) (hn : inks.length ≤ 6) :
    F88v1 k inks (some c) false (some c) s.A s.B = some (sideB m inks a0 a1 b0 b1) := by
  unfold F88v1 sideB
  rw [Option.bind_some, idx_bang hA.1 hA.2, h1, Option.bind_some, Option.bind_some, idx_bang hB.1 hB.2, h2, Option.bind_some]
  have wa : w64 (w64 ((a1 : Int) - a0) + 1) = ((a1 + 1 - a0 : Nat) : Int) := by rw [w64_id (n := (a1 : Int) - a0) (by omega) (by omega), w64_id (by omega) (by omega)]; omega
  have wb : w64 (w64 ((b1 : Int) - b0) + 1) = ((b1 + 1 - b0 : Nat) : Int) := by rw [w64_id (n := (b1 : Int) - b0) (by omega) (by omega), w64_id (by omega) (by omega)]; omega
  have e := any_accN (N := a1 + 1 - a0) (L := F88v1L1 k inks (some c) (⟨a0, a1⟩ : Sp) ⟨b0, b1⟩) (p := fun i => anyN (fun j => decide (a0 + i ≠ b0 + j) && likeB m inks[a0 + i]! inks[b0 + j]!) (b1 + 1 - b0) 0)
    (fun n x acc h => by rw [F88v1L1, if_neg (by rw [decide_eq_true_eq]; dsimp only; rw [wa]; omega)])
    (fun n i acc h => by
      rw [F88v1L1, if_pos (by rw [decide_eq_true_eq]; dsimp only; rw [wa]; omega)]
      have e2 := any_accN (N := b1 + 1 - b0) (L := F88v1L2 inks (some c) (⟨a0, a1⟩ : Sp) ⟨b0, b1⟩ ((i : Int), acc)) (p := fun j => decide (a0 + i ≠ b0 + j) && likeB m inks[a0 + i]! inks[b0 + j]!)
        (fun n x acc h => by rw [F88v1L2, if_neg (by rw [decide_eq_true_eq]; dsimp only; rw [wb]; omega)])
        (fun n j acc2 h => by
          rw [F88v1L2, if_pos (by rw [decide_eq_true_eq]; dsimp only; rw [wb]; omega)]
          dsimp only
          rw [w64_id (show -9223372036854775808 ≤ (a0 : Int) + i by omega) (by omega), w64_id (show -9223372036854775808 ≤ (b0 : Int) + j by omega) (by omega), w64_id (show -9223372036854775808 ≤ (j : Int) + 1 by omega) (by omega)]
          rw [show (a0 : Int) + i = ((a0 + i : Nat) : Int) from by omega, show (b0 : Int) + j = ((b0 + j : Nat) : Int) from by omega, e33r hc g hi (by omega) (by omega)]
          by_cases hab : a0 + i = b0 + j
          · have hb : (((a0 + i : Nat) : Int) != ((b0 + j : Nat) : Int)) = false := by simp; omega
            rw [hb, optG_false, Option.bind_some]
            simp [hab]
          · have hb : (((a0 + i : Nat) : Int) != ((b0 + j : Nat) : Int)) = true := by simp; omega
            rw [hb, optG_true, Option.bind_some]
            simp [hab]) (b1 + 1 - b0) k 0 acc (by omega) (by omega)
      rw [Int.natCast_zero] at e2
      dsimp only
      rw [e2, Option.bind_some, outK_inr, w64_id (by omega) (by omega)]) (a1 + 1 - a0) k 0 false (by omega) (by omega)
  rw [Int.natCast_zero] at e
  rw [e, Option.bind_some, outK_inr, Bool.false_or]

theorem sideB_wrong {m : Mp} {l inks : List Int} {s : Pr} {a0 a1 b0 b1 : Nat} (h1 : (alls m l)[s.A.toNat]! = ⟨a0, a1⟩) (h2 : (alls m l)[s.B.toNat]! = ⟨b0, b1⟩) (ha1 : a1 < inks.length) (hb1 : b1 < inks.length) :
    sideB m inks a0 a1 b0 b1 = wrongB m l inks s := by
  rw [Bool.eq_iff_iff, wrongB_iff]
  unfold sideB
  rw [anyN_iff]
  have hbe : ∀ p q : Nat, besideB (alls m l) s p q = true ↔ (a0 ≤ p ∧ p ≤ a1 ∧ b0 ≤ q ∧ q ≤ b1) ∨ (a0 ≤ q ∧ q ≤ a1 ∧ b0 ≤ p ∧ p ≤ b1) := by
    intro p q
    unfold besideB okN
    rw [h1, h2]
    simp only [Bool.or_eq_true, Bool.and_eq_true, decide_eq_true_eq]
    omega
  constructor
  · rintro ⟨i, _, h3, h4⟩
    obtain ⟨j, _, h5, h6⟩ := (anyN_iff _ _).1 h4
    rw [Bool.and_eq_true, decide_eq_true_eq] at h6
    rcases Nat.lt_or_gt_of_ne h6.1 with h | h
    · exact ⟨b0 + j, a0 + i, h, by omega, by rw [likeB_comm]; exact h6.2, (hbe _ _).2 (.inr (by omega))⟩
    · exact ⟨a0 + i, b0 + j, h, by omega, h6.2, (hbe _ _).2 (.inl (by omega))⟩
  · rintro ⟨a, b, h3, h4, h5, h6⟩
    rcases (hbe _ _).1 h6 with h | h
    · refine ⟨a - a0, by omega, by omega, (anyN_iff _ _).2 ⟨b - b0, by omega, by omega, ?_⟩⟩
      rw [show a0 + (a - a0) = a from by omega, show b0 + (b - b0) = b from by omega, h5]; simp; omega
    · refine ⟨b - a0, by omega, by omega, (anyN_iff _ _).2 ⟨a - b0, by omega, by omega, ?_⟩⟩
      rw [show a0 + (b - a0) = b from by omega, show b0 + (a - b0) = a from by omega, likeB_comm, h5]; simp; omega

theorem alls_at {m : Mp} {l : List Int} {i : Int} (h0 : 0 ≤ i) (h : i < m.Heights.length) : (alls m l)[i.toNat]! = ⟨(band l m.Heights[i.toNat]!.Lo : Int), (band l m.Heights[i.toNat]!.Hi : Int)⟩ := by
  rw [getElem!_pos _ i.toNat (by simp [alls]; omega), getElem!_pos _ i.toNat (by omega)]; simp [alls, bandS]
theorem hei_at {m : Mp} (g : GoodM m) {i : Int} (h0 : 0 ≤ i) (h : i < m.Heights.length) : 0 ≤ m.Heights[i.toNat]!.Lo ∧ m.Heights[i.toNat]!.Lo ≤ m.Heights[i.toNat]!.Hi ∧ m.Heights[i.toNat]!.Hi ≤ 9000 := by
  refine g.hei _ ?_
  rw [getElem!_pos _ i.toNat (by omega)]; exact List.getElem_mem _
theorem e33 {k : Nat} (hk : 20 ≤ k) {m : Mp} {l inks : List Int} : F33 k m l inks = some (mist m l inks) := by
  unfold F33 mist
  by_cases h : (chkLeg m l).2 = 0
  · obtain ⟨g, gl⟩ := chkLeg_good.1 h
    have hl : l.length ≤ 5 := by have := g.b1; have := gl.len; omega
    have hi0 := g.i0
    have hi1 := g.i1
    obtain ⟨v, h1, h2⟩ := e64 (k := k) (by omega) g gl
    rw [h1, Option.bind_some, if_neg (by simp), w64_id (by omega) (by omega)]
    by_cases hn : inks.length = l.length + 1
    · rw [if_neg (by simp; omega), w64_id (by omega) (by omega), e52 (by omega) (by omega), Option.bind_some]
      have hbd : (inks.any fun n => decide (n < 0) || decide (n > m.Inks - 1)) = inks.any (badInk m) := rfl
      have hE : inksE m l inks = if inks.any (badInk m) then 4 else 0 := by unfold inksE; rw [if_pos h, if_pos hn]
      rw [hbd, hE]
      cases hb : inks.any (badInk m) with
      | true => rfl
      | false =>
        have hgood := inksE_good.1 (hE.trans (by rw [hb]; rfl))
        rw [if_neg (by simp), if_pos (by simp), coll_loop (l := m.Sides) (L := F33L1 k m inks (some ⟨m, l, alls m l, v⟩, 0)) (p := wrongB m l inks) g.s1
          (fun n c acc hc => by rw [F33L1, if_neg (by simpa using hc)])
          (fun n c acc x hx hc0 hc1 hi ha => by
            have hs := g.sid x hx
            have hs1 := g.s1
            rw [F33L1, if_pos (by simpa using hc1)]
            dsimp only
            have hA := hei_at g hs.1.1 hs.1.2
            have hB := hei_at g hs.2.1.1 hs.2.1.2
            have hal : (alls m l).length = m.Heights.length := by simp [alls]
            have q1 := band_mono l hA.2.1
            have q2 := band_mono l hB.2.1
            have q3 := band_le l m.Heights[x.A.toNat]!.Hi
            have q4 := band_le l m.Heights[x.B.toNat]!.Hi
            rw [hi, Option.bind_some, F72v2, Option.bind_some]
            dsimp only
            rw [e88v hk (c := ⟨m, l, alls m l, v⟩) h2 g hgood.2.2.2 (s := x) (by dsimp only; omega) (by dsimp only; omega) (alls_at hs.1.1 hs.1.2) (alls_at hs.2.1.1 hs.2.1.2) (by omega) (by omega) (by omega) (by omega) (by omega),
              sideB_wrong (alls_at hs.1.1 hs.1.2) (alls_at hs.2.1.1 hs.2.1.2) (by omega) (by omega), Option.bind_some, w64_id (by omega) (by omega), need_true (by simp; omega), Option.bind_some]) m.Sides [] k 0 [] rfl rfl (by have := g.s1; omega) (by simp), Option.bind_some, outK_inr, List.nil_append]
    · have hE : inksE m l inks = 3 := by unfold inksE; rw [if_pos h, if_neg hn]
      rw [if_pos (by simp; omega), hE]; rfl
  · have hE : inksE m l inks = (chkLeg m l).2 := by unfold inksE; rw [if_neg h]
    rw [e64_bad (by omega) h, Option.bind_some, if_pos (by simpa using h), hE, if_neg h]

theorem mist_len (m : Mp) (l inks : List Int) : (mist m l inks).1.length ≤ 10 := by
  unfold mist
  by_cases h : inksE m l inks = 0
  · rw [if_pos h]
    have := wrongs_len (wrongB m l inks) m.Sides 0
    have := (inksE_good.1 h).1.s1
    dsimp only; omega
  · rw [if_neg h]; simp
theorem paints_len (m : Mp) (l : List Int) : (paints m l).1.length ≤ 6 := by
  unfold paints
  by_cases h : (chkLeg m l).2 = 0
  · rw [if_pos h]
    obtain ⟨g, gl⟩ := chkLeg_good.1 h
    have hl : l.length ≤ 5 := by have := g.b1; have := gl.len; omega
    by_cases hn : paintS m l = []
    · rw [if_pos hn]; simp
    · rw [if_neg hn]; exact paintS_len hl
  · rw [if_neg h]; simp
theorem law4 (m : Mp) (l inks : List Int) : F4 200 m l inks = some true := by
  have h1 := paints_len m l
  have h2 := mist_len m l inks
  unfold F4
  rw [e31 (by omega), Option.bind_some, e32 (by omega), Option.bind_some, e26 (by omega) (by omega), Option.bind_some, e33 (by omega), e34 (by omega)]
  simp only [bne_self_eq_false, cond_false, Bool.not_true, Bool.false_eq_true, if_false, Option.bind_some]
  rw [e26 (by omega) (by omega), Option.bind_some, beq_self_eq_true, cond_true, optG_true, awake200]
  rfl
end Go.Proofs.Ytpkhbbboedoldaa
