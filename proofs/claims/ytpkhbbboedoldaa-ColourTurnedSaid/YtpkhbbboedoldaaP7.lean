/- If each height and border is turned upside down, so are the bands, and the best legend leaves as many points unsure. -/
import Derived.Test.YtpkhbbboedoldaaP5
import Derived.Test.YtpkhbbboedoldaaPV
import Derived.Test.YtpkhbbboedoldaaPA
import Derived.Test.YtpkhbbboedoldaaPG
import Derived.Test.YtpkhbbboedoldaaPY
import Derived.Test.YtpkhbbboedoldaaDL
namespace Go.Proofs.Ytpkhbbboedoldaa
open Go Go.Sx
set_option linter.all false

def turnB (s : Sp) : Sp := ⟨9001 - s.Hi, 9001 - s.Lo⟩
def turnH (s : Sp) : Sp := ⟨9000 - s.Hi, 9000 - s.Lo⟩
def turnM (m : Mp) : Mp := ⟨(m.Borders.map turnB).reverse, m.Step, m.Heights.map turnH, m.Sides, m.Inks, m.Like⟩
def turnL (l : List Int) : List Int := (l.map fun x => 9001 - x).reverse
theorem turnB2 (s : Sp) : turnB (turnB s) = s := by
  cases s; simp only [turnB, S_api_Span.mk.injEq]; omega
theorem turnH2 (s : Sp) : turnH (turnH s) = s := by
  cases s; simp only [turnH, S_api_Span.mk.injEq]; omega
theorem turnM2 (m : Mp) : turnM (turnM m) = m := by
  cases m
  simp only [turnM, List.map_reverse, List.reverse_reverse, List.map_map, S_api_ClMap.mk.injEq, and_true]
  refine ⟨?_, trivial, ?_⟩
  · rw [show turnB ∘ turnB = id from funext turnB2, List.map_id]
  · rw [show turnH ∘ turnH = id from funext turnH2, List.map_id]
theorem rev_map_at {α β : Type} [Inhabited α] [Inhabited β] (f : α → β) (l : List α) {i : Nat} (h : i < l.length) : (l.map f).reverse[i]! = f l[l.length - 1 - i]! := by
  rw [getElem!_pos _ i (by simpa using h), getElem!_pos l (l.length - 1 - i) (by omega), List.getElem_reverse, List.getElem_map]
  simp
theorem turnL_at {l : List Int} {i : Nat} (h : i < l.length) : (turnL l)[i]! = 9001 - l[l.length - 1 - i]! := rev_map_at _ l h
theorem goodL_turn {m : Mp} {l : List Int} (gl : GoodL m l) : GoodL (turnM m) (turnL l) := by
  have hl := gl.len
  have hlen : (turnL l).length = l.length := by simp [turnL]
  refine ⟨by simp [turnL, turnM, hl], fun i hi => ?_, fun i hi => ?_⟩
  · rw [hlen] at hi
    have := gl.inb (l.length - 1 - i) (by omega)
    have e : (turnM m).Borders[i]! = turnB m.Borders[m.Borders.length - 1 - i]! := rev_map_at turnB m.Borders (by omega)
    rw [turnL_at hi, e, ← hl]
    simp only [turnB]
    omega
  · rw [hlen] at hi
    have := gl.gap (l.length - 1 - (i + 1)) (by omega)
    rw [turnL_at (by omega), turnL_at (by omega)]
    rw [show l.length - 1 - (i + 1) + 1 = l.length - 1 - i from by omega] at this
    simp only [turnM]
    omega
theorem parts_turn (s : Sp) (b : Int) : partsB (turnH s) (9001 - b) = partsB s b := by
  unfold partsB turnH
  rw [Bool.eq_iff_iff]
  simp only [Bool.and_eq_true, decide_eq_true_eq]
  omega
theorem cost_turn {m : Mp} {l : List Int} (g : GoodM m) (gl : GoodL m l) : cost (turnM m).Heights none (turnL l) = cost m.Heights none l := by
  rw [cost_count _ none ((goodL_leg.1 gl).srt g.st0), cost_count _ none ((goodL_leg.1 (goodL_turn gl)).srt g.st0)]
  congr 1
  simp only [turnM]
  rw [List.countP_map]
  refine List.countP_congr fun s _ => ?_
  have : (turnL l).any (partsB (turnH s)) = l.any (partsB s) := by
    unfold turnL
    rw [List.any_reverse, List.any_map]
    congr 1
    funext b
    exact parts_turn s b
  simp only [Function.comp, this, preP]
theorem opt_turn {m : Mp} (g : GoodM m) {x : List Int × Int} (h : opt m.Step m.Heights m.Borders none = some x) : ∃ y, opt (turnM m).Step (turnM m).Heights (turnM m).Borders none = some y ∧ y.2 ≤ x.2 := by
  obtain ⟨h1, h2⟩ := opt_some h
  have gl := goodL_leg.2 h1
  obtain ⟨y, h3, h4⟩ := opt_min (hs := (turnM m).Heights) (goodL_leg.1 (goodL_turn gl))
  rw [cost_turn g gl] at h4
  exact ⟨y, h3, by omega⟩
theorem best_turn {m : Mp} (g : GoodM m) (g2 : GoodM (turnM m)) : (best (turnM m)).2 = (best m).2 := by
  have e2 := turnM2 m
  unfold best
  rw [if_pos (chk_good.2 g), if_pos (chk_good.2 g2)]
  cases h1 : opt m.Step m.Heights m.Borders none with
  | none =>
    cases h2 : opt (turnM m).Step (turnM m).Heights (turnM m).Borders none with
    | none => rfl
    | some y =>
      obtain ⟨z, h3, _⟩ := opt_turn g2 h2
      rw [e2, h1] at h3; cases h3
  | some x =>
    obtain ⟨y, h2, h4⟩ := opt_turn g h1
    obtain ⟨z, h3, h5⟩ := opt_turn g2 h2
    rw [e2, h1] at h3
    have hz := Option.some.inj h3
    subst hz
    rw [h2]
    have : y.2 = x.2 := by omega
    dsimp only
    rw [this]

theorem band_turn {m : Mp} (g : GoodM m) {l : List Int} (gl : GoodL m l) (hi2 : Inc (turnL l)) (h : Int) : band (turnL l) (9000 - h) = l.length - band l h := by
  have hb := band_le l h
  have hi := gl.inc g
  have hlen : (turnL l).length = l.length := by simp [turnL]
  refine band_is hi2 (by omega) (fun i hi' => ?_) (fun hlt => ?_)
  · rw [turnL_at (by omega)]
    have h1 := band_at l h (by omega)
    by_cases he : band l h = l.length - 1 - i
    · rw [he] at h1; omega
    · have := hi (band l h) (l.length - 1 - i) (by omega) (by omega); omega
  · rw [hlen] at hlt
    rw [turnL_at (by omega)]
    have := band_lt l h (l.length - 1 - (l.length - band l h)) (by omega)
    omega

theorem alls_at2 {m : Mp} {l : List Int} {i : Nat} (h : i < m.Heights.length) : (alls m l)[i]! = ⟨(band l m.Heights[i]!.Lo : Int), (band l m.Heights[i]!.Hi : Int)⟩ := by
  rw [getElem!_pos _ i (by simp [alls]; omega), getElem!_pos _ i (by omega)]; simp [alls, bandS]
theorem hei_at2 {m : Mp} (g : GoodM m) {i : Nat} (h : i < m.Heights.length) : 0 ≤ m.Heights[i]!.Lo ∧ m.Heights[i]!.Lo ≤ m.Heights[i]!.Hi ∧ m.Heights[i]!.Hi ≤ 9000 := by
  refine g.hei _ ?_
  rw [getElem!_pos _ i h]; exact List.getElem_mem _
theorem e16L1 {m : Mp} (g : GoodM m) : ∀ (i n : Nat) (acc : List Sp), i ≤ m.Borders.length → i < n → acc.length + i ≤ 5 → F16L1 m n ((i : Int) - 1, acc) = some (.inr (acc ++ ((m.Borders.take i).map turnB).reverse)) := by
  intro i
  induction i with
  | zero =>
    intro n acc hi hn ha
    obtain ⟨n, rfl⟩ : ∃ m, n = m + 1 := ⟨n - 1, by omega⟩
    rw [F16L1, if_neg (by simp)]; simp
  | succ i ih =>
    intro n acc hi hn ha
    obtain ⟨n, rfl⟩ : ∃ m, n = m + 1 := ⟨n - 1, by omega⟩
    have hb := g.bor m.Borders[i]! (by rw [getElem!_pos m.Borders i (by omega)]; exact List.getElem_mem _)
    rw [show ((i + 1 : Nat) : Int) - 1 = (i : Int) from by omega, F16L1, if_pos (by simp)]
    dsimp only
    rw [idx_nat (by omega), Option.bind_some, Option.bind_some, F47, Option.bind_some, need_true (by simp; omega), Option.bind_some, w64_id (by omega) (by omega), w64_id (by omega) (by omega), w64_id (by omega) (by omega), ih n _ (by omega) (by omega) (by simp; omega)]
    rw [List.take_succ_eq_append_getElem (by omega), List.map_append, List.reverse_append, ← getElem!_pos m.Borders i (by omega)]
    simp [turnB]
theorem e16L2 {m : Mp} (g : GoodM m) : ∀ (d n c : Nat) (acc : List Sp), c + d = m.Heights.length → d < n → acc.length = c → F16L2 m n ((c : Int), acc) = some (.inr (acc ++ (m.Heights.drop c).map turnH)) := by
  have hh1 := g.h1
  intro d
  induction d with
  | zero =>
    intro n c acc hc hn ha
    obtain ⟨n, rfl⟩ : ∃ m, n = m + 1 := ⟨n - 1, by omega⟩
    rw [F16L2, if_neg (by simp; omega), List.drop_eq_nil_of_le (by omega)]; simp
  | succ d ih =>
    intro n c acc hc hn ha
    obtain ⟨n, rfl⟩ : ∃ m, n = m + 1 := ⟨n - 1, by omega⟩
    have hcl : c < m.Heights.length := by omega
    have hh := hei_at2 g hcl
    rw [F16L2, if_pos (by simp; omega)]
    dsimp only
    rw [idx_nat (by omega), Option.bind_some, Option.bind_some, F47, Option.bind_some, need_true (by simp; omega), Option.bind_some, w64_id (n := 9000 - m.Heights[c]!.Hi) (by omega) (by omega), w64_id (n := 9000 - m.Heights[c]!.Lo) (by omega) (by omega), w64_id (by omega) (by omega), show (c : Int) + 1 = ((c + 1 : Nat) : Int) from by omega, ih n (c + 1) _ (by omega) (by omega) (by simp; omega)]
    rw [List.drop_eq_getElem_cons hcl, List.map_cons, ← getElem!_pos m.Heights c hcl]
    simp [turnH]
theorem e16L3 {l : List Int} (hl : l.length ≤ 5) (hb : ∀ y ∈ l, 0 ≤ y ∧ y ≤ 9000) : ∀ (i n : Nat) (acc : List Int), i ≤ l.length → i < n → acc.length + i ≤ 5 → F16L3 l n ((i : Int) - 1, acc) = some (.inr (acc ++ ((l.take i).map fun x => 9001 - x).reverse)) := by
  intro i
  induction i with
  | zero =>
    intro n acc hi hn ha
    obtain ⟨n, rfl⟩ : ∃ m, n = m + 1 := ⟨n - 1, by omega⟩
    rw [F16L3, if_neg (by simp)]; simp
  | succ i ih =>
    intro n acc hi hn ha
    obtain ⟨n, rfl⟩ : ∃ m, n = m + 1 := ⟨n - 1, by omega⟩
    have hb := hb l[i]! (by rw [getElem!_pos l i (by omega)]; exact List.getElem_mem _)
    rw [show ((i + 1 : Nat) : Int) - 1 = (i : Int) from by omega, F16L3, if_pos (by simp)]
    dsimp only
    rw [idx_nat (by omega), Option.bind_some, need_true (by simp; omega), Option.bind_some, w64_id (by omega) (by omega), w64_id (by omega) (by omega), ih n _ (by omega) (by omega) (by simp; omega)]
    rw [List.take_succ_eq_append_getElem (by omega), List.map_append, List.reverse_append, ← getElem!_pos l i (by omega)]
    simp

theorem goodL_bd {m : Mp} (g : GoodM m) {l : List Int} (gl : GoodL m l) : ∀ y ∈ l, 0 ≤ y ∧ y ≤ 9000 := by
  intro y hy
  obtain ⟨i, hi, rfl⟩ := List.getElem_of_mem hy
  have h1 := gl.inb i hi
  have h2 := g.bor m.Borders[i]! (by rw [getElem!_pos m.Borders i (by have := gl.len; omega)]; exact List.getElem_mem _)
  rw [getElem!_pos l i hi] at h1
  omega

theorem law16 (m : Mp) (x : List Int) (hx : Tn x) : F16 200 m x = some true := by
  unfold F16
  rw [e39 (by omega), Option.bind_some]
  by_cases h : (chk m).2.2 = 0
  · have g := chk_good.1 h
    have hb1 := g.b1
    have hh1 := g.h1
    rw [show ((chk m).2.2 == 0) = true from by simpa using h, Bool.not_true, if_neg (by simp)]
    have q1 := e16L1 g m.Borders.length 200 [] (by omega) (by omega) (by simp; omega)
    have q2 := e16L2 g m.Heights.length 200 0 [] (by omega) (by omega) rfl
    rw [List.take_length, List.nil_append] at q1
    rw [List.drop_zero, List.nil_append, Int.natCast_zero] at q2
    rw [w64_id (by omega) (by omega), q1, Option.bind_some, outK_inr, q2, Option.bind_some, outK_inr, e39 (by omega), Option.bind_some]
    change (if (!((chk (turnM m)).2.2 == 0)) = true then _ else _) = _
    by_cases h3 : (chk (turnM m)).2.2 = 0
    · have g2 := chk_good.1 h3
      have hbest := best_turn g g2
      rw [show ((chk (turnM m)).2.2 == 0) = true from by simpa using h3, Bool.not_true, if_neg (by simp), e35 (by omega), Option.bind_some, e35 (by omega), Option.bind_some]
      change (if (cond ((best m).2.1 != (best (turnM m)).2.1) true ((best m).2.2 != (best (turnM m)).2.2)) = true then _ else _) = _
      rw [hbest, if_neg (by simp)]
      obtain ⟨l, h1, h2⟩ := e40 (k := 200) (by omega) g hx
      rw [h1, Option.bind_some, e41 (by omega), Option.bind_some]
      by_cases h4 : (chkLeg m l).2 = 0
      · obtain ⟨_, gl⟩ := chkLeg_good.1 h4
        have gl2 := goodL_turn gl
        have hal : (alls m l).length = m.Heights.length := by simp [alls]
        have hal2 : (alls (turnM m) (turnL l)).length = m.Heights.length := by simp [alls, turnM]
        have h5 : (chkLeg (turnM m) (turnL l)).2 = 0 := chkLeg_good.2 ⟨g2, gl2⟩
        have q3 := e16L3 (by omega) (goodL_bd g gl) l.length 200 [] (by omega) (by omega) (by simp; omega)
        rw [List.take_length, List.nil_append] at q3
        rw [show ((chkLeg m l).2 == 0) = true from by simpa using h4, Bool.not_true, if_neg (by simp), w64_id (by omega) (by omega), q3, Option.bind_some, outK_inr, e21 (by omega), Option.bind_some, if_pos h4]
        change ((F21 200 (turnM m) (turnL l)).bind _) = _
        rw [e21 (by omega), Option.bind_some, if_pos h5, if_neg (by simp [hal, hal2])]
        have key : ∀ (d n c : Nat), c + d = m.Heights.length → d < n → F16L4 l (alls m l, 0) (alls (turnM m) (turnL l), 0) n (c : Int) = some (.inr ()) := by
          intro d
          induction d with
          | zero =>
            intro n c hc hn
            obtain ⟨n, rfl⟩ : ∃ m, n = m + 1 := ⟨n - 1, by omega⟩
            rw [F16L4, if_neg (by simp; omega)]
          | succ d ih =>
            intro n c hc hn
            obtain ⟨n, rfl⟩ : ∃ m, n = m + 1 := ⟨n - 1, by omega⟩
            have hcl : c < m.Heights.length := by omega
            have a1 := alls_at2 (l := l) hcl
            have a2 : (alls (turnM m) (turnL l))[c]! = ⟨(band (turnL l) (9000 - m.Heights[c]!.Hi) : Int), (band (turnL l) (9000 - m.Heights[c]!.Lo) : Int)⟩ := by
              rw [getElem!_pos _ c (by omega), getElem!_pos m.Heights c hcl]; simp [alls, bandS, turnM, turnH]
            have b1 := band_le l m.Heights[c]!.Hi
            have b2 := band_le l m.Heights[c]!.Lo
            rw [F16L4, if_pos (by simp; omega)]
            dsimp only
            rw [idx_nat (by omega), Option.bind_some, idx_nat (by omega), Option.bind_some, Option.bind_some, F47, Option.bind_some, a1, a2, band_turn g gl (gl2.inc g2), band_turn g gl (gl2.inc g2)]
            dsimp only
            rw [w64_id (n := (l.length : Int) - (band l m.Heights[c]!.Hi : Nat)) (by omega) (by omega), w64_id (n := (l.length : Int) - (band l m.Heights[c]!.Lo : Nat)) (by omega) (by omega)]
            rw [show ((l.length - band l m.Heights[c]!.Hi : Nat) : Int) = (l.length : Int) - (band l m.Heights[c]!.Hi : Nat) from by omega, show ((l.length - band l m.Heights[c]!.Lo : Nat) : Int) = (l.length : Int) - (band l m.Heights[c]!.Lo : Nat) from by omega,
              beq_self_eq_true, beq_self_eq_true, Bool.and_true, Bool.not_true, if_neg (by simp), w64_id (by omega) (by omega), show (c : Int) + 1 = ((c + 1 : Nat) : Int) from by omega]
            exact ih n (c + 1) (by omega) (by omega)
        have q4 := key m.Heights.length 200 0 (by omega) (by omega)
        rw [Int.natCast_zero] at q4
        rw [q4, Option.bind_some, outK_inr, awake200]; rfl
      · rw [show ((chkLeg m l).2 == 0) = false from by simpa using h4, Bool.not_false, if_pos rfl, awake200]; rfl
    · rw [show ((chk (turnM m)).2.2 == 0) = false from by simpa using h3, Bool.not_false, if_pos rfl, awake200]; rfl
  · rw [show ((chk m).2.2 == 0) = false from by simpa using h, Bool.not_false, if_pos rfl, awake200]; rfl
end Go.Proofs.Ytpkhbbboedoldaa
