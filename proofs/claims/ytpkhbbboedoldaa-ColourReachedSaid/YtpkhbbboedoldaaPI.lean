/- A point whose height is just one of its span is in one of its bands, and is sure; each of its bands is met by some height. -/
import Derived.Test.YtpkhbbboedoldaaP5
import Derived.Test.YtpkhbbboedoldaaPG
import Derived.Test.YtpkhbbboedoldaaPY
import Derived.Test.YtpkhbbboedoldaaPA
import Derived.Test.YtpkhbbboedoldaaDU
namespace Go.Proofs.Ytpkhbbboedoldaa
open Go Go.Sx
set_option linter.all false

theorem band_border {l : List Int} (hi : Inc l) {n : Nat} (h0 : 0 < n) (hn : n ≤ l.length) : band l l[n - 1]! = n := by
  refine band_is hi hn (fun i hi' => ?_) (fun hlt => hi (n - 1) n (by omega) hlt)
  by_cases he : i = n - 1
  · rw [he]; omega
  · have := hi i (n - 1) (by omega) (by omega); omega
def justM (m : Mp) (i : Nat) (v : Int) : Mp := ⟨m.Borders, m.Step, m.Heights.set i ⟨v, v⟩, m.Sides, m.Inks, m.Like⟩
theorem good_just {m : Mp} (g : GoodM m) {i : Nat} {v : Int} (hv : 0 ≤ v ∧ v ≤ 9000) : GoodM (justM m i v) := by
  refine ⟨g.b0, g.b1, by simp [justM]; exact g.h0, by simp [justM]; exact g.h1, g.s1, g.l1, g.st0, g.st1, g.i0, g.i1, g.bor, ?_, ?_, g.lik⟩
  · intro s hs
    rcases List.mem_or_eq_of_mem_set hs with h | h
    · exact g.hei s h
    · rw [h]; dsimp only; omega
  · intro p hp
    have := g.sid p hp
    simpa [justM] using this
theorem alls_just {m : Mp} {i : Nat} {v : Int} {l : List Int} : alls (justM m i v) l = (alls m l).set i ⟨(band l v : Int), (band l v : Int)⟩ := by
  unfold alls justM
  rw [List.map_set]; rfl

theorem e8L1 {m : Mp} (g : GoodM m) {l : List Int} (gl : GoodL m l) {which : S__3quint16} {i : Nat} (hi : i < m.Heights.length) (he : (IntKind.i64.wrap which.e0).tmod (m.Heights.length : Int) = (i : Int)) {e : Int} {n : Nat} (hn : band l m.Heights[i]!.Lo ≤ n ∧ n ≤ band l m.Heights[i]!.Hi)
    {bd v : Int} (hbd : bd = if n = 0 then 0 else l[n - 1]!) (hv : m.Heights[i]!.Lo ≤ v ∧ v ≤ m.Heights[i]!.Hi) : F8L1 200 m which l (alls m l, e) (n : Int) bd v m.Heights[i]! 200 0 = some (.inr ()) := by
  have hh := hei_at2 g hi
  have hh1 := g.h1
  have hle := band_le l m.Heights[i]!.Hi
  have hal : (alls m l).length = m.Heights.length := by simp [alls]
  have hmax : ∃ w, (if bd > m.Heights[i]!.Lo then bd else m.Heights[i]!.Lo) = w ∧ m.Heights[i]!.Lo ≤ w ∧ w ≤ m.Heights[i]!.Hi ∧ band l w = n := by
    by_cases h0 : n = 0
    · rw [if_pos h0] at hbd
      exact ⟨m.Heights[i]!.Lo, by rw [hbd, if_neg (by omega)], by omega, by omega, by omega⟩
    · rw [if_neg h0] at hbd
      have h1 : l[n - 1]! ≤ m.Heights[i]!.Hi := band_lt l _ (n - 1) (by omega)
      by_cases hgt : bd > m.Heights[i]!.Lo
      · exact ⟨bd, if_pos hgt, by omega, by omega, by rw [hbd]; exact band_border (gl.inc g) (by omega) (by omega)⟩
      · refine ⟨m.Heights[i]!.Lo, if_neg hgt, by omega, by omega, ?_⟩
        have h2 := band_mono l (show l[n - 1]! ≤ m.Heights[i]!.Lo by omega)
        rw [band_border (gl.inc g) (by omega) (by omega)] at h2
        omega
  obtain ⟨w, hw0, hw1, hw2, hw3⟩ := hmax
  have step : ∀ (k c : Nat) (y : Int), (c = 0 ∧ y = v) ∨ (c = 1 ∧ y = w) → F8L1 200 m which l (alls m l, e) (n : Int) bd v m.Heights[i]! (k + 1) (c : Int) = F8L1 200 m which l (alls m l, e) (n : Int) bd v m.Heights[i]! k ((c : Int) + 1) := by
    intro k c y hy
    have hyr : m.Heights[i]!.Lo ≤ y ∧ y ≤ m.Heights[i]!.Hi := by rcases hy with h | h <;> omega
    have gj := good_just g (i := i) (v := y) (by omega)
    have glj : GoodL (justM m i y) l := ⟨gl.len, gl.inb, gl.gap⟩
    have hcj : (chkLeg (justM m i y) l).2 = 0 := chkLeg_good.2 ⟨gj, glj⟩
    have hix : idx ([v, w] : List Int) (c : Int) = some y := by rcases hy with ⟨rfl, rfl⟩ | ⟨rfl, rfl⟩ <;> rfl
    have hc2 : (c : Int) < 2 := by rcases hy with h | h <;> omega
    have q1 := band_mono l hyr.1
    have q2 := band_mono l hyr.2
    have hlen : ((alls m l).set i ⟨(band l y : Int), (band l y : Int)⟩).length = (alls m l).length := by simp
    have hat : ((alls m l).set i (⟨(band l y : Int), (band l y : Int)⟩ : Sp))[i]! = ⟨(band l y : Int), (band l y : Int)⟩ := by
      rw [getElem!_pos _ i (by simp; omega)]; simp
    have hix1 : idx ((alls m l).set i (⟨(band l y : Int), (band l y : Int)⟩ : Sp)) (i : Int) = some ⟨(band l y : Int), (band l y : Int)⟩ := by rw [idx_nat (by omega), hat]
    have hix2 : idx (alls m l) (i : Int) = some ⟨(band l m.Heights[i]!.Lo : Int), (band l m.Heights[i]!.Hi : Int)⟩ := by rw [idx_nat (by omega), alls_at2 hi]
    have hix3 : idx m.Heights (i : Int) = some m.Heights[i]! := idx_nat hi
    have d1 := decide_eq_true (show ((band l m.Heights[i]!.Lo : Nat) : Int) ≤ (band l y : Nat) by omega)
    have d2 := decide_eq_true (show ((band l y : Nat) : Int) ≤ (band l m.Heights[i]!.Hi : Nat) by omega)
    have d3 := decide_eq_true hyr.1
    have d4 := decide_eq_true hyr.2
    rw [F8L1, if_pos (by rw [decide_eq_true_eq]; exact hc2), need_true (by simp; omega), Option.bind_some, hw0, hix, Option.bind_some, Option.bind_some, F47, Option.bind_some, he, List.nil_append, hix3, Option.bind_some, Int.toNat_natCast]
    change ((F21 200 (justM m i y) l).bind _) = _
    rw [e21 (by omega), Option.bind_some, if_pos hcj, alls_just]
    dsimp only
    simp only [hlen, hix1, hix2, e45, Option.bind_some, optG_true, bne_self_eq_false, cond_false, Bool.not_false, Bool.not_true, Bool.and_true, Bool.true_and, d1, d2, d3, d4]
    rw [w64_id (by omega) (by omega)]
    rcases hy with ⟨rfl, rfl⟩ | ⟨rfl, rfl⟩
    · rfl
    · have e1 : (((1 : Nat) : Int) == 1) = true := rfl
      simp only [e1, optG_true, Option.bind_some, cond_true, hw3, bne_self_eq_false, cond_false, Bool.false_eq_true, if_false]
  have s0 := step 199 0 v (.inl ⟨rfl, rfl⟩)
  have s1 := step 198 1 w (.inr ⟨rfl, rfl⟩)
  rw [Int.natCast_zero] at s0
  rw [s0]
  rw [show (0 : Int) + 1 = ((1 : Nat) : Int) from rfl, s1, F8L1, if_neg (by decide)]

theorem law8 (m : Mp) (x : List Int) (which : S__3quint16) (hx : Tn x) (u0 : 0 ≤ which.e0 ∧ which.e0 ≤ 65535) (u1 : 0 ≤ which.e1 ∧ which.e1 ≤ 65535) (u2 : 0 ≤ which.e2 ∧ which.e2 ≤ 65535) : F8 200 m x which = some true := by
  have i64 : ∀ n : Int, 0 ≤ n ∧ n ≤ 65535 → IntKind.i64.wrap n = n := fun n h => w64_id (by omega) (by omega)
  unfold F8
  rw [e39 (by omega), Option.bind_some]
  by_cases h : (chk m).2.2 = 0
  · have g := chk_good.1 h
    have hb1 := g.b1
    have hh0 := g.h0
    rw [show ((chk m).2.2 == 0) = true from by simpa using h, Bool.not_true, if_neg (by simp)]
    obtain ⟨l, h1, h2⟩ := e40 (k := 200) (by omega) g hx
    rw [h1, Option.bind_some, e41 (by omega), Option.bind_some]
    by_cases h3 : (chkLeg m l).2 = 0
    · obtain ⟨_, gl⟩ := chkLeg_good.1 h3
      have hal : (alls m l).length = m.Heights.length := by simp [alls]
      rw [show ((chkLeg m l).2 == 0) = true from by simpa using h3, Bool.not_true, if_neg (by simp), need_true (by omega), Option.bind_some, e21 (by omega), Option.bind_some, if_pos h3]
      have hr := tmod_room u0.1 (show 0 < (m.Heights.length : Int) by omega)
      rw [← i64 _ u0] at hr
      obtain ⟨i, hei⟩ : ∃ i : Nat, (IntKind.i64.wrap which.e0).tmod (m.Heights.length : Int) = (i : Int) := ⟨((IntKind.i64.wrap which.e0).tmod (m.Heights.length : Int)).toNat, by omega⟩
      rw [hei] at hr
      have hi : i < m.Heights.length := by omega
      have hh := hei_at2 g hi
      have hle := band_le l m.Heights[i]!.Hi
      have hmo := band_mono l hh.2.1
      have hix2 : idx (alls m l) (i : Int) = some ⟨(band l m.Heights[i]!.Lo : Int), (band l m.Heights[i]!.Hi : Int)⟩ := by rw [idx_nat (by omega), alls_at2 hi]
      have d1 := decide_eq_false (show ¬ ((band l m.Heights[i]!.Lo : Nat) : Int) > (band l m.Heights[i]!.Hi : Nat) by omega)
      have d2 := decide_eq_false (show ¬ ((band l m.Heights[i]!.Lo : Nat) : Int) < 0 by omega)
      have d3 := decide_eq_false (show ¬ ((band l m.Heights[i]!.Hi : Nat) : Int) > (l.length : Int) by omega)
      dsimp only
      rw [hei, hal]
      simp only [hix2, Option.bind_some, optG_true, bne_self_eq_false, cond_false, Bool.not_false, d1, d2, d3, Bool.false_eq_true, if_false]
      obtain ⟨v, hv1, hv2, hv3⟩ := e43 (s := (⟨(band l m.Heights[i]!.Lo : Nat), (band l m.Heights[i]!.Hi : Nat)⟩ : Sp)) (n := IntKind.i64.wrap which.e2) (by dsimp only; omega) (by dsimp only; omega) (by dsimp only; omega) (by rw [i64 _ u2]; omega)
      dsimp only at hv2 hv3
      obtain ⟨n, rfl⟩ : ∃ n : Nat, v = (n : Int) := ⟨v.toNat, by omega⟩
      rw [hv1, Option.bind_some]
      have hbord : (if decide ((n : Int) > 0) = true then ((idx l (w64 ((n : Int) - 1))).bind fun x19 => (some (.inr x19) : Option (Bool ⊕ Int))) else some (.inr 0)) = some (.inr (if n = 0 then 0 else l[n - 1]!)) := by
        by_cases h0 : n = 0
        · rw [if_pos h0, if_neg (by rw [decide_eq_true_eq]; omega)]
        · rw [if_neg h0, if_pos (by rw [decide_eq_true_eq]; omega), w64_id (by omega) (by omega), show (n : Int) - 1 = ((n - 1 : Nat) : Int) from by omega, idx_nat (by omega), Option.bind_some]
      rw [hbord, Option.bind_some, outK_inr, idx_nat hi, Option.bind_some]
      obtain ⟨w, hw1, hw2⟩ := e43 hh.1 hh.2.1 hh.2.2 (n := IntKind.i64.wrap which.e1) (by rw [i64 _ u1]; omega)
      rw [hw1, Option.bind_some, Option.bind_some, e8L1 g gl hi hei (n := n) (by omega) rfl hw2, Option.bind_some, outK_inr, awake200]; rfl
    · rw [show ((chkLeg m l).2 == 0) = false from by simpa using h3, Bool.not_false, if_pos rfl, awake200]; rfl
  · rw [show ((chk m).2.2 == 0) = false from by simpa using h, Bool.not_false, if_pos rfl, awake200]; rfl
end Go.Proofs.Ytpkhbbboedoldaa
