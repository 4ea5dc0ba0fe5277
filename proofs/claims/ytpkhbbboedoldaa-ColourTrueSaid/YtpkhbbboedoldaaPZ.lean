/- In any truth each point is in one of its bands, and the bands of two points beside each other meet. -/
import Derived.Test.YtpkhbbboedoldaaPY
import Derived.Test.YtpkhbbboedoldaaPU
import Derived.Test.YtpkhbbboedoldaaPO
import Derived.Test.YtpkhbbboedoldaaPW
namespace Go.Proofs.Ytpkhbbboedoldaa
open Go Go.Sx
set_option linter.all false

theorem mem_doubt : ∀ (l : List Sp) (i0 j : Int), j ∈ doubt l i0 ↔ ∃ k : Nat, k < l.length ∧ j = i0 + k ∧ l[k]!.Lo < l[k]!.Hi := by
  intro l
  induction l with
  | nil => intro i0 j; simp [doubt]
  | cons s ss ih =>
    intro i0 j
    have e : j ∈ doubt (s :: ss) i0 ↔ (j = i0 ∧ s.Lo < s.Hi) ∨ j ∈ doubt ss (i0 + 1) := by
      rw [doubt]
      by_cases h : s.Lo < s.Hi
      · rw [if_pos h, List.mem_cons]
        exact or_congr_left ⟨fun e => ⟨e, h⟩, fun e => e.1⟩
      · rw [if_neg h]
        exact ⟨.inr, fun h2 => h2.resolve_left fun h3 => h h3.2⟩
    rw [e, ih]
    constructor
    · rintro (⟨h1, h2⟩ | ⟨k, h1, h2, h3⟩)
      · exact ⟨0, by simp, by omega, by simpa using h2⟩
      · exact ⟨k + 1, by simpa using h1, by omega, by simpa using h3⟩
    · rintro ⟨k, h1, h2, h3⟩
      cases k with
      | zero => exact .inl ⟨by omega, by simpa using h3⟩
      | succ k => exact .inr ⟨k, by simpa using h1, by omega, by simpa using h3⟩

/-- A truth by bands. -/
def NowOk (all : List Sp) (n : Nat) (now : List Int) : Prop := now.length = n ∧ ∀ i : Nat, i < n → all[i]!.Lo ≤ now[i]! ∧ now[i]! ≤ all[i]!.Hi
theorem NowOk.snoc {all : List Sp} {n : Nat} {now : List Int} (h : NowOk all n now) {v : Int} (hv : all[n]!.Lo ≤ v ∧ v ≤ all[n]!.Hi) : NowOk all (n + 1) (now ++ [v]) := by
  refine ⟨by simp [h.1], fun i hi => ?_⟩
  by_cases he : i = n
  · have := h.1
    subst he
    rw [← this]
    rw [← this] at hv
    rw [snoc_last]; exact hv
  · rw [snoc_bang (by have := h.1; omega)]; exact h.2 i (by omega)

theorem e7L1 {k : Nat} (hk : 40 ≤ k) {m : Mp} (g : GoodM m) {l : List Int} (gl : GoodL m l) {px : S_hachurelaw09qPast} (hx : Tn px.Truth) : ∀ (d n c : Nat) (acc : List Int), c + d = m.Heights.length → d < n → NowOk (alls m l) c acc →
    ∃ now, F7L1 k m px l (alls m l, 0) (doubt (alls m l) 0, 0) n ((c : Int), acc) = some (.inr now) ∧ NowOk (alls m l) m.Heights.length now := by
  have hh1 := g.h1
  have hb1 := g.b1
  have hll := gl.len
  have hal : (alls m l).length = m.Heights.length := by simp [alls]
  intro d
  induction d with
  | zero =>
    intro n c acc hc hn ha
    obtain ⟨n, rfl⟩ : ∃ m, n = m + 1 := ⟨n - 1, by omega⟩
    rw [F7L1, if_neg (by simp; omega)]
    exact ⟨acc, rfl, by rw [← hc]; exact ha⟩
  | succ d ih =>
    intro n c acc hc hn ha
    obtain ⟨n, rfl⟩ : ∃ m, n = m + 1 := ⟨n - 1, by omega⟩
    have hcl : c < m.Heights.length := by omega
    have hh := hei_at g (i := (c : Int)) (by omega) (by omega)
    have hat := alls_at (m := m) (l := l) (i := (c : Int)) (by omega) (by omega)
    rw [Int.toNat_natCast] at hh hat
    obtain ⟨t, ht, ht0, ht1⟩ := e44 hx (i := (c : Int)) (by omega)
    obtain ⟨v, hv, hv0, hv1⟩ := e43 hh.1 hh.2.1 hh.2.2 ht0
    have q1 := band_mono l hv0
    have q2 := band_mono l hv1
    have hdl := doubt_len (alls m l) 0
    rw [F7L1, if_pos (by simp; omega)]
    dsimp only
    rw [idx_nat hcl, Option.bind_some, ht, Option.bind_some, hv, Option.bind_some, e42 (gl.inc g) (by omega) (by omega), Option.bind_some, idx_nat (by omega), Option.bind_some, hat, e45, Option.bind_some]
    dsimp only
    rw [decide_eq_true (show ((band l m.Heights[c]!.Lo : Nat) : Int) ≤ (band l v : Nat) by omega), decide_eq_true (show ((band l v : Nat) : Int) ≤ (band l m.Heights[c]!.Hi : Nat) by omega)]
    simp only [Bool.and_true, Bool.not_true, Bool.not_false, optG_true, Option.bind_some, cond_false]
    rw [e46 (by omega) (by omega), Option.bind_some]
    have hcon : (doubt (alls m l) 0).contains (c : Int) = decide (band l m.Heights[c]!.Lo < band l m.Heights[c]!.Hi) := by
      rw [Bool.eq_iff_iff, List.contains_iff_mem, mem_doubt, decide_eq_true_eq]
      constructor
      · rintro ⟨j, h1, h2, h3⟩
        have : j = c := by omega
        subst this
        rw [hat] at h3
        dsimp only at h3
        omega
      · intro h
        refine ⟨c, by omega, by omega, ?_⟩
        rw [hat]
        dsimp only
        omega
    rw [hcon]
    have hne : ((((band l m.Heights[c]!.Lo : Nat) : Int) == ((band l m.Heights[c]!.Hi : Nat) : Int)) == decide (band l m.Heights[c]!.Lo < band l m.Heights[c]!.Hi)) = false := by
      by_cases h : band l m.Heights[c]!.Lo < band l m.Heights[c]!.Hi
      · have h1 : (((band l m.Heights[c]!.Lo : Nat) : Int) == ((band l m.Heights[c]!.Hi : Nat) : Int)) = false := beq_eq_false_iff_ne.2 (by omega)
        rw [h1, decide_eq_true h]; rfl
      · have h1 : (((band l m.Heights[c]!.Lo : Nat) : Int) == ((band l m.Heights[c]!.Hi : Nat) : Int)) = true := beq_iff_eq.2 (by omega)
        rw [h1, decide_eq_false h]; rfl
    rw [hne, if_neg (by simp), need_true (by have := ha.1; simp; omega), Option.bind_some, w64_id (by omega) (by omega)]
    obtain ⟨now, h1, h2⟩ := ih n (c + 1) (acc ++ [((band l v : Nat) : Int)]) (by omega) (by omega) (ha.snoc (by rw [hat]; dsimp only; omega))
    exact ⟨now, by rw [show (c : Int) + 1 = ((c + 1 : Nat) : Int) from by omega]; exact h1, h2⟩

theorem e7L3 {ps : List Pr} {e a b : Int} (h100 : ps.length ≤ 100) : ∀ (suf pre : List Pr) (n : Nat) (c : Int) (acc : Bool), ps = pre ++ suf → c = pre.length → suf.length < n →
    F7L3 (ps, e) a b n (acc, c) = some (.inr (acc || suf.any fun p => (p.A == (if b < a then b else a)) && (p.B == (if b > a then b else a)))) := by
  intro suf
  induction suf with
  | nil =>
    intro pre n c acc hl hc hn
    obtain ⟨n, rfl⟩ : ∃ m, n = m + 1 := ⟨n - 1, by simp at hn; omega⟩
    rw [F7L3, if_neg (by dsimp only; rw [hl]; simp; omega)]; simp
  | cons s suf ih =>
    intro pre n c acc hl hc hn
    simp only [List.length_cons] at hn
    obtain ⟨n, rfl⟩ : ∃ m, n = m + 1 := ⟨n - 1, by omega⟩
    have hlen : ps.length = pre.length + (suf.length + 1) := by rw [hl]; simp
    have hix : idx ps c = some s := by rw [hl]; exact idx_mid hc
    rw [F7L3, if_pos (by simp; omega)]
    dsimp only
    rw [hix, w64_id (by omega) (by omega)]
    cases acc with
    | true =>
      simp only [Bool.not_true, optG_false, Option.bind_some, cond_true]
      rw [ih (pre ++ [s]) n (c + 1) true (by simp [hl]) (by simp; omega) (by omega)]; simp
    | false =>
      simp only [Bool.not_false, optG_true, Option.bind_some, cond_false, F38]
      rw [ih (pre ++ [s]) n (c + 1) _ (by simp [hl]) (by simp; omega) (by omega)]; simp

theorem metB_of {m : Mp} {l : List Int} {s : Pr} (hs : s ∈ m.Sides) {a b : Int} (ha : (alls m l)[s.A.toNat]!.Lo ≤ a ∧ a ≤ (alls m l)[s.A.toNat]!.Hi) (hb : (alls m l)[s.B.toNat]!.Lo ≤ b ∧ b ≤ (alls m l)[s.B.toNat]!.Hi) : metB m l a b = true := by
  unfold metB
  rw [List.any_eq_true]
  refine ⟨s, hs, ?_⟩
  unfold besideB okN
  simp only [Bool.or_eq_true, Bool.and_eq_true, decide_eq_true_eq]
  exact .inl ⟨ha, hb⟩

theorem e7L2 {k : Nat} (hk : 120 ≤ k) {m : Mp} (g : GoodM m) {l : List Int} (gl : GoodL m l) {px : S_hachurelaw09qPast} {now : List Int} (hnow : NowOk (alls m l) m.Heights.length now) {n : Nat} (hn : 20 ≤ n) :
    F7L2 k m (metM m l (l.length + 1) 0, 0) now n 0 = some (.inr ()) := by
  have hb1 := g.b1
  have hs1 := g.s1
  have hll := gl.len
  have hml := metM_len (m := m) (l := l) (by omega) (l.length + 1) 0
  have hnl := hnow.1
  have key := any_loop (l := m.Sides) (L := F7L2 k m (metM m l (l.length + 1) 0, 0) now) (p := fun _ => false) (r := false) (by omega)
    (fun n c h => by rw [F7L2, if_neg (by simpa using h)])
    (fun n c s hs h0 h1 hi => by
      have hsid := g.sid s hs
      have hA := hnow.2 s.A.toNat (by omega)
      have hB := hnow.2 s.B.toNat (by omega)
      have hhA := alls_hi (l := l) g s.A.toNat (by omega)
      have hhB := alls_hi (l := l) g s.B.toNat (by omega)
      have hok := alls_ok g gl
      have h0A := hok s.A.toNat (by simp [alls]; omega)
      have h0B := hok s.B.toNat (by simp [alls]; omega)
      rw [F7L2, if_pos (by simpa using h1), hi, Option.bind_some, idx_bang (by omega) (by omega), Option.bind_some, Option.bind_some, idx_bang (by omega) (by omega), Option.bind_some, e7L3 (ps := metM m l (l.length + 1) 0) (by omega) (metM m l (l.length + 1) 0) [] k 0 _ rfl rfl (by omega), Option.bind_some, outK_inr]
      have hmet := metB_of hs hA hB
      generalize now[s.A.toNat]! = a at hA hmet ⊢
      generalize now[s.B.toNat]! = b at hB hmet ⊢
      have htrue : ((a == b) || (metM m l (l.length + 1) 0).any fun p => (p.A == (if b < a then b else a)) && (p.B == (if b > a then b else a))) = true := by
        by_cases he : a = b
        · simp [he]
        · rw [Bool.or_eq_true]
          right
          rw [List.any_eq_true]
          refine ⟨⟨if b < a then b else a, if b > a then b else a⟩, (mem_metM _ 0 (by omega) (by omega)).2 ⟨?_, ?_, ?_, ?_⟩, by simp⟩
          · dsimp only; split <;> omega
          · dsimp only; split <;> split <;> omega
          · dsimp only; split <;> omega
          · dsimp only
            by_cases hlt : b < a
            · rw [if_pos hlt, if_neg (by omega), metB_comm]; exact hmet
            · rw [if_neg hlt, if_pos (by omega)]; exact hmet
      rw [htrue]
      simp) m.Sides [] n 0 rfl rfl (by omega)
  rw [key]
  simp

theorem law7 (m : Mp) (px : S_hachurelaw09qPast) (hl : Tn px.Legend) (ht : Tn px.Truth) : F7 200 m px = some true := by
  unfold F7
  rw [e39 (by omega), Option.bind_some]
  by_cases h : (chk m).2.2 = 0
  · have g := chk_good.1 h
    have hb1 := g.b1
    rw [show ((chk m).2.2 == 0) = true from by simpa using h, Bool.not_true, if_neg (by simp)]
    obtain ⟨l, h1, h2⟩ := e40 (k := 200) (by omega) g hl
    rw [h1, Option.bind_some, e21 (by omega), Option.bind_some, e24 (by omega), Option.bind_some, e27 (by omega), Option.bind_some, e41 (by omega), Option.bind_some, unsure, mets]
    by_cases h3 : (chkLeg m l).2 = 0
    · obtain ⟨_, gl⟩ := chkLeg_good.1 h3
      have hal : (alls m l).length = m.Heights.length := by simp [alls]
      rw [show ((chkLeg m l).2 == 0) = true from by simpa using h3, Bool.not_true, if_neg (by simp), if_pos h3, if_pos h3, if_pos h3]
      rw [if_neg (by simp [hal])]
      obtain ⟨now, h4, h5⟩ := e7L1 (k := 200) (by omega) g gl ht m.Heights.length 200 0 [] (by omega) (by have := g.h1; omega) ⟨rfl, fun i hi => by omega⟩
      rw [Int.natCast_zero] at h4
      rw [h4, Option.bind_some, outK_inr, e7L2 (by omega) g gl (px := px) h5 (by omega), Option.bind_some, outK_inr, awake200]
      rfl
    · rw [show ((chkLeg m l).2 == 0) = false from by simpa using h3, Bool.not_false, if_pos rfl, if_neg h3, if_neg h3, if_neg h3]
      have e1 : ((chkLeg m l).2 != 0) = true := by simpa using h3
      simp only [e1, beq_self_eq_true, cond_true, optG_true]
      rw [awake200]
      rfl
  · rw [show ((chk m).2.2 == 0) = false from by simpa using h, Bool.not_false, if_pos rfl, e35 (by omega), Option.bind_some, best, if_neg h]
    have e1 : ((chk m).2.2 != 0) = true := by simpa using h
    simp only [e1, optG_true, cond_true]
    rw [awake200]
    rfl
end Go.Proofs.Ytpkhbbboedoldaa
