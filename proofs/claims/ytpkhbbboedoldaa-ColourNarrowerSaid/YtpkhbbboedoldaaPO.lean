/- What the functions of chapter 09 come to, in plain words: Meets; the law Bands. -/
import Derived.Test.YtpkhbbboedoldaaPG
import Derived.Test.YtpkhbbboedoldaaPA
namespace Go.Proofs.Ytpkhbbboedoldaa
open Go Go.Sx
set_option linter.all false

theorem cut_bang {v x : List Int} {k n : Nat} (h : cutN v k n = some x) {i : Nat} (hi : i < n) : x[i]! = v[k + i]! := by
  obtain ⟨h1, h2, h3⟩ := cutN_some h
  rw [getElem!_pos x i (by omega), getElem!_pos v (k + i) (by omega)]
  subst h2
  simp
theorem cut_is {v : List Int} {k n : Nat} (h : k + n ≤ v.length) : cutN v k n = some ((v.drop k).take n) := if_pos h

theorem e27L1 {k : Nat} (hk : 20 ≤ k) {m : Mp} {l v x4 : List Int} (g : GoodM m) (hl : l.length ≤ 5) (hc : ChartOk m l v) (h4 : cutN v 0 36 = some x4) : ∀ (d n : Nat) (a : Nat) (acc : List Pr), a + d = 6 → d < n → acc.length ≤ 5 * a →
    F27L1 k x4 n ((a : Int), acc) = some (.inr (acc ++ metM m l d a)) := by
  have hx4 := (cutN_some h4).2.2
  intro d
  induction d with
  | zero =>
    intro n a acc ha hn hca
    obtain ⟨n, rfl⟩ : ∃ m, n = m + 1 := ⟨n - 1, by omega⟩
    rw [F27L1, if_neg (by simp; omega)]; simp [metM]
  | succ d ih =>
    intro n a acc ha hn hca
    obtain ⟨n, rfl⟩ : ∃ m, n = m + 1 := ⟨n - 1, by omega⟩
    rw [F27L1, if_pos (by simp; omega)]
    simp only [Int.toNat_natCast]
    rw [need_true (by omega), Option.bind_some]
    have c1 := cut_is (v := x4) (k := 0 + a * 6) (n := 6) (by omega)
    rw [c1, Option.bind_some, need_true ((cutN_some c1).2.2), Option.bind_some]
    have c2 := cut_is (v := (x4.drop (0 + a * 6)).take 6) (k := 0) (n := 6) (by have := (cutN_some c1).2.2; omega)
    rw [c2, Option.bind_some]
    have hx : ∀ b : Nat, b < 6 → ((((x4.drop (0 + a * 6)).take 6).drop 0).take 6)[b]! = v[a * 6 + b]! := by
      intro b hb
      rw [cut_bang c2 hb, cut_bang c1 (by omega), cut_bang h4 (by omega)]
      congr 1
      omega
    have e := e27L2 (c7 := ((a : Int), acc)) (x := (((x4.drop (0 + a * 6)).take 6).drop 0).take 6) ((cutN_some c2).2.2) 6 k 0 acc (by omega) (by omega) (by omega)
    have hr := row_eq g hl hc (a := a) (by omega) hx
    have e' : F27L2 ((a : Int), acc) ((((x4.drop (0 + a * 6)).take 6).drop 0).take 6) k (0, acc) = some (.inr (acc ++ rowM (metB m l a) a (l.length - a) (a + 1))) := by
      rw [← hr]; exact e
    rw [e', Option.bind_some, outK_inr, w64_id (by omega) (by omega)]
    have hlen := rowM_len (metB m l a) a (l.length - a) (a + 1)
    have := ih n (a + 1) (acc ++ rowM (metB m l a) a (l.length - a) (a + 1)) (by omega) (by omega) (by simp only [List.length_append]; omega)
    rw [show ((a : Int) + 1) = ((a + 1 : Nat) : Int) by simp]
    simp only [Int.natCast_add, Int.natCast_one] at this ⊢
    rw [this]
    simp [metM]

theorem metM_far {m : Mp} {l : List Int} : ∀ (d : Nat) (a : Int), (l.length : Int) < a → metM m l d a = [] := by
  intro d
  induction d with
  | zero => intro a _; rfl
  | succ d ih =>
    intro a h
    simp only [metM]
    rw [show l.length - a.toNat = 0 by omega, ih (a + 1) (by omega)]
    rfl
theorem metM_add {m : Mp} {l : List Int} : ∀ (d k : Nat) (a : Int), metM m l (d + k) a = metM m l d a ++ metM m l k (a + d) := by
  intro d
  induction d with
  | zero => intro k a; simp [metM]
  | succ d ih =>
    intro k a
    rw [show d + 1 + k = (d + k) + 1 by omega]
    simp only [metM]
    rw [ih k (a + 1), show a + 1 + (d : Int) = a + ((d + 1 : Nat) : Int) by simp; omega]
    simp
theorem e27 {k : Nat} (hk : 20 ≤ k) {m : Mp} {l : List Int} : F27 k m l = some (mets m l) := by
  unfold F27 mets
  by_cases h : (chkLeg m l).2 = 0
  · obtain ⟨g, gl⟩ := chkLeg_good.1 h
    have hl : l.length ≤ 5 := by have := g.b1; have := gl.len; omega
    obtain ⟨v, e, hc⟩ := e64 hk g gl
    have c := cut_is (v := v) (k := 0) (n := 36) (by have := hc.len; omega)
    rw [e, if_pos h, Option.bind_some, if_neg (by simp), Option.bind_some]
    simp only
    rw [c, Option.bind_some]
    have := e27L1 hk g hl hc c 6 k 0 [] (by omega) (by omega) (by simp)
    simp only [Int.natCast_zero, List.nil_append] at this
    rw [this, Option.bind_some, outK_inr]
    rw [show 6 = (l.length + 1) + (5 - l.length) by omega, metM_add (l.length + 1), metM_far (5 - l.length) _ (by simp; omega), List.append_nil]
  · rw [e64_bad hk h, if_neg h, Option.bind_some, if_pos (by simpa using h)]

theorem law3 (m : Mp) (l : List Int) : F3 200 m l = some true := by
  unfold F3
  rw [e17 (by omega), Option.bind_some, e18 (by omega), Option.bind_some, e19 (by omega), e20 (by omega), e21 (by omega), e22 (by omega), e24 (by omega), e25 (by omega), e27 (by omega), e28 (by omega)]
  simp only [bne_self_eq_false, cond_false, Bool.false_eq_true, if_false, Option.bind_some]
  have h1 : F23 200 (if (chkLeg m l).2 = 0 then (alls m l, (0 : Int)) else ([], (chkLeg m l).2)).1 (if (chkLeg m l).2 = 0 then (alls m l, (0 : Int)) else ([], (chkLeg m l).2)).1 = some true := by
    have : (if (chkLeg m l).2 = 0 then (alls m l, (0 : Int)) else ([], (chkLeg m l).2)).1.length ≤ 8 := by
      split
      · rename_i h; obtain ⟨g, _⟩ := chkLeg_good.1 h; have := g.h1; simpa [alls] using this
      · simp
    exact e23 (by omega) (by omega)
  have h2 : F26 200 (unsure m l).1 (unsure m l).1 = some true := by
    have : (unsure m l).1.length ≤ 8 := by
      unfold unsure
      split
      · rename_i h; obtain ⟨g, _⟩ := chkLeg_good.1 h
        have h3 := doubt_len (alls m l) 0
        have := g.h1
        have h4 : (alls m l).length = m.Heights.length := by simp [alls]
        simp only; omega
      · simp
    exact e26 (by omega) (by omega)
  have h3 : F29 200 (mets m l).1 (mets m l).1 = some true := by
    have : (mets m l).1.length ≤ 30 := by
      unfold mets
      split
      · rename_i h; obtain ⟨g, gl⟩ := chkLeg_good.1 h
        have hl : l.length ≤ 5 := by have := g.b1; have := gl.len; omega
        have := metM_len (m := m) hl (l.length + 1) 0
        simp only; omega
      · simp
    exact e29 (by omega) (by omega)
  rw [h1]
  simp only [Option.bind_some, Bool.not_true, cond_false, bne_self_eq_false, Bool.false_eq_true, if_false]
  rw [h2]
  simp only [Option.bind_some, Bool.not_true, cond_false, bne_self_eq_false, Bool.false_eq_true, if_false]
  rw [h3]
  simp only [Option.bind_some, beq_self_eq_true, cond_true, optG_true, awake200]
end Go.Proofs.Ytpkhbbboedoldaa
