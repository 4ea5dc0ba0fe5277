/- Sets of inks by bits, and whether two inks are alike, of the program. -/
import Derived.Test.YtpkhbbboedoldaaPP
import Derived.Test.YtpkhbbboedoldaaDP
import Derived.KernelRfl
namespace Go.Proofs.Ytpkhbbboedoldaa
open Go Go.Sx
set_option linter.all false

def pop (u : Nat) : Nat := (List.range 6).countP fun i => u.testBit i
theorem e70_all : ((List.range 64).all fun u => F70 (IntKind.u64.wrap (u : Int)) == some ((pop u : Nat) : Int)) = true := by kernel_rfl
theorem e70 {u : Nat} (h : u < 64) : F70 (IntKind.u64.wrap (u : Int)) = some ((pop u : Nat) : Int) := by
  have := List.all_eq_true.1 e70_all u (List.mem_range.2 h)
  exact eq_of_beq this
theorem pop_all : ((List.range 64).all fun u => (List.range 6).all fun i => pop (u ||| 2 ^ i) == pop u + (if u.testBit i then 0 else 1) && Nat.blt (u ||| 2 ^ i) 64) = true := by kernel_rfl
theorem pop_or {u i : Nat} (h : u < 64) (hi : i < 6) : pop (u ||| 2 ^ i) = pop u + (if u.testBit i then 0 else 1) ∧ u ||| 2 ^ i < 64 := by
  have := List.all_eq_true.1 (List.all_eq_true.1 pop_all u (List.mem_range.2 h)) i (List.mem_range.2 hi)
  rw [Bool.and_eq_true] at this
  exact ⟨eq_of_beq this.1, by simpa using this.2⟩

structure UsedOk (u : Nat) (pre : List Int) : Prop where
  lt : u < 64
  num : pop u = cnt pre
  bit : ∀ i : Nat, i < 6 → (u.testBit i = true ↔ (i : Int) ∈ pre)
theorem UsedOk.snoc {u : Nat} {pre : List Int} (h : UsedOk u pre) {i : Nat} (hi : i < 6) : UsedOk (u ||| 2 ^ i) (pre ++ [(i : Int)]) := by
  obtain ⟨h1, h2⟩ := pop_or h.lt hi
  refine ⟨h2, ?_, fun j hj => ?_⟩
  · rw [h1, h.num, cnt_snoc]
    congr 1
    have := h.bit i hi
    by_cases hb : u.testBit i = true
    · rw [if_pos hb, if_pos (by rw [List.contains_iff_mem]; exact this.1 hb)]
    · rw [if_neg hb, if_neg (by rw [List.contains_iff_mem]; exact fun hm => hb (this.2 hm))]
  · rw [Nat.testBit_or, Nat.testBit_two_pow, Bool.or_eq_true, h.bit j hj, List.mem_append, List.mem_singleton, decide_eq_true_eq]
    exact or_congr_right ⟨fun e => by omega, fun e => by omega⟩
theorem used_nil : UsedOk 0 [] := ⟨by omega, by decide, fun i _ => by simp⟩

theorem likeM_iff {m : Mp} {a b : Nat} (ha : (a : Int) < m.Inks) : likeM m m.Like a b ↔ likeB m a b = true := by
  unfold likeM likeP likeB
  simp only [Bool.or_eq_true, List.any_eq_true, Bool.and_eq_true, beq_iff_eq]
  constructor
  · rintro (⟨h, _⟩ | ⟨p, hp, h⟩)
    · exact .inl (by omega)
    · exact .inr ⟨p, hp, h⟩
  · rintro (h | ⟨p, hp, h⟩)
    · exact .inl ⟨by omega, ha⟩
    · exact .inr ⟨p, hp, h⟩
theorem e68 {m : Mp} {l : List Int} {c : S_colour_chart} (hc : ChartOk m l c.vec) (g : GoodM m) {a b : Int} (ha : 0 ≤ a ∧ a < m.Inks) (hb : 0 ≤ b ∧ b < m.Inks) : F68 (some c) a b = some (likeB m a b) := by
  have h6 := g.i1
  obtain ⟨a, rfl⟩ : ∃ n : Nat, a = n := ⟨a.toNat, by omega⟩
  obtain ⟨b, rfl⟩ : ∃ n : Nat, b = n := ⟨b.toNat, by omega⟩
  obtain ⟨n, h1, h2, h3⟩ := hc.bit a (by omega)
  have hl := hc.len
  unfold F68
  rw [Option.bind_some, need_true (by omega), Option.bind_some, Int.toNat_natCast, Nat.mul_one, get_bang (by omega), Option.bind_some, need_true (by omega), Option.bind_some, h1, Int.toNat_natCast, Nat.min_eq_left (by omega)]
  congr 1
  have e1 : ((n : Int) / 2 ^ b) = ((n / 2 ^ b : Nat) : Int) := by norm_cast
  have e2 : n / 2 ^ b < 2 ^ 62 := Nat.lt_of_le_of_lt (Nat.div_le_self _ _) (by omega)
  rw [e1]
  rw [show (1 : Int) = ((1 : Nat) : Int) from rfl, bits_and _ 1 e2 (by omega), Nat.and_one_is_mod]
  rw [Bool.eq_iff_iff, ← likeM_iff ha.2, ← h3 b, Nat.testBit_eq_decide_div_mod_eq, beq_iff_eq, decide_eq_true_eq]
  omega
end Go.Proofs.Ytpkhbbboedoldaa
