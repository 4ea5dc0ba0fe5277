/- The search for the first painting with the fewest different inks: the number of inks, and which of two paintings is taken. -/
import Derived.Test.YtpkhbbboedoldaaPL
namespace Go.Proofs.Ytpkhbbboedoldaa
open Go Go.Sx
set_option linter.all false

def cntG : List Int → List Int → Nat
  | _, [] => 0
  | s, x :: xs => (if s.contains x then 0 else 1) + cntG (s ++ [x]) xs
def cnt (l : List Int) : Nat := cntG [] l
theorem cntG_append : ∀ (a b s : List Int), cntG s (a ++ b) = cntG s a + cntG (s ++ a) b := by
  intro a
  induction a with
  | nil => intro b s; simp [cntG]
  | cons x xs ih =>
    intro b s
    rw [List.cons_append, cntG, cntG, ih, List.append_assoc, List.singleton_append]
    omega
theorem cnt_snoc (l : List Int) (x : Int) : cnt (l ++ [x]) = cnt l + if l.contains x then 0 else 1 := by
  rw [cnt, cntG_append, List.nil_append, cntG, cntG]; rfl
theorem cnt_le (a b : List Int) : cnt a ≤ cnt (a ++ b) := by rw [cnt, cnt, cntG_append]; omega

def mrg (acc x : List Int) : List Int := if x = [] then acc else if acc = [] then x else if cnt x < cnt acc then x else acc
theorem mrg_nil (a : List Int) : mrg a [] = a := if_pos rfl
theorem nil_mrg (a : List Int) : mrg [] a = a := by
  unfold mrg
  by_cases h : a = []
  · rw [if_pos h, h]
  · rw [if_neg h, if_pos rfl]
theorem mrg_lt {a x : List Int} (hx : x ≠ []) (h : a = [] ∨ cnt x < cnt a) : mrg a x = x := by
  unfold mrg
  rw [if_neg hx]
  by_cases ha : a = []
  · rw [if_pos ha]
  · rw [if_neg ha, if_pos (h.resolve_left ha)]
theorem mrg_ge {a x : List Int} (ha : a ≠ []) (h : x = [] ∨ cnt a ≤ cnt x) : mrg a x = a := by
  unfold mrg
  by_cases hx : x = []
  · rw [if_pos hx]
  · rw [if_neg hx, if_neg ha, if_neg (by have := h.resolve_left hx; omega)]
theorem mrg_assoc (a b c : List Int) : mrg (mrg a b) c = mrg a (mrg b c) := by
  by_cases hb : b = []
  · subst hb; rw [mrg_nil, nil_mrg]
  by_cases ha : a = []
  · subst ha; rw [nil_mrg, nil_mrg]
  by_cases hc : c = []
  · subst hc; rw [mrg_nil, mrg_nil]
  by_cases h1 : cnt b < cnt a
  · rw [mrg_lt hb (.inr h1)]
    by_cases h2 : cnt c < cnt b
    · rw [mrg_lt hc (.inr h2), mrg_lt hc (.inr (by omega))]
    · rw [mrg_ge hb (.inr (by omega)), mrg_lt hb (.inr h1)]
  · rw [mrg_ge ha (.inr (by omega))]
    by_cases h2 : cnt c < cnt b
    · rw [mrg_lt hc (.inr h2)]
    · rw [mrg_ge hb (.inr (by omega)), mrg_ge ha (.inr (by omega)), mrg_ge ha (.inr (by omega))]

def srchK (f : Int → List Int) : Nat → Int → List Int → List Int
  | 0, _, acc => acc
  | d + 1, i, acc => srchK f d (i + 1) (mrg acc (f i))
theorem srchK_mrg {f : Int → List Int} : ∀ (d : Nat) (i : Int) (a b : List Int), srchK f d i (mrg a b) = mrg a (srchK f d i b) := by
  intro d
  induction d with
  | zero => intro i a b; rfl
  | succ d ih => intro i a b; rw [srchK, srchK, mrg_assoc, ih]
theorem srchK_ind {f : Int → List Int} {P : List Int → Prop} (hm : ∀ a b, P a → P b → P (mrg a b)) : ∀ (d : Nat) (i : Int) (a : List Int), P a → (∀ j : Nat, j < d → P (f (i + j))) → P (srchK f d i a) := by
  intro d
  induction d with
  | zero => intro i a h _; exact h
  | succ d ih =>
    intro i a h hf
    rw [srchK]
    refine ih _ _ (hm _ _ h (by simpa using hf 0 (by omega))) fun j hj => ?_
    have := hf (j + 1) (by omega)
    rwa [show i + ((j + 1 : Nat) : Int) = i + 1 + (j : Int) from by omega] at this
theorem mrg_or (a b : List Int) : mrg a b = a ∨ mrg a b = b := by
  unfold mrg
  by_cases h1 : b = []
  · rw [if_pos h1]; exact .inl rfl
  · rw [if_neg h1]
    by_cases h2 : a = []
    · rw [if_pos h2]; exact .inr rfl
    · rw [if_neg h2]
      by_cases h3 : cnt b < cnt a
      · rw [if_pos h3]; exact .inr rfl
      · rw [if_neg h3]; exact .inl rfl

def srch (fine : List Int → Int → Bool) (K : Nat) : Nat → List Int → List Int
  | 0, pre => pre
  | n + 1, pre => srchK (fun i => if fine pre i then srch fine K n (pre ++ [i]) else []) K 0 []
theorem srch_ext {fine : List Int → Int → Bool} {K : Nat} : ∀ (n : Nat) (pre : List Int), srch fine K n pre = [] ∨ ∃ r, srch fine K n pre = pre ++ r ∧ r.length = n := by
  intro n
  induction n with
  | zero => intro pre; exact .inr ⟨[], by simp [srch], rfl⟩
  | succ n ih =>
    intro pre
    rw [srch]
    refine srchK_ind (P := fun x => x = [] ∨ ∃ r, x = pre ++ r ∧ r.length = n + 1) (fun a b ha hb => (mrg_or a b).elim (fun h => by rw [h]; exact ha) (fun h => by rw [h]; exact hb)) K 0 [] (.inl rfl) fun j _ => ?_
    by_cases h : fine pre (0 + j) = true
    · rw [if_pos h]
      rcases ih (pre ++ [0 + (j : Int)]) with h1 | ⟨r, h1, h2⟩
      · exact .inl h1
      · exact .inr ⟨(0 + (j : Int)) :: r, by rw [h1, List.append_assoc]; rfl, by simp [h2]⟩
    · rw [if_neg h]; exact .inl rfl
theorem srch_prune {fine : List Int → Int → Bool} {K n : Nat} {pre acc : List Int} (ha : acc ≠ []) (h : cnt acc ≤ cnt pre) : mrg acc (srch fine K n pre) = acc := by
  rcases srch_ext (fine := fine) (K := K) n pre with h1 | ⟨r, h1, _⟩
  · exact mrg_ge ha (.inl h1)
  · refine mrg_ge ha (.inr ?_)
    rw [h1]
    have := cnt_le pre r
    omega

/-- Two inks are alike. -/
def likeB (m : Mp) (a b : Int) : Bool := (a == b) || m.Like.any fun p => (p.A == a && p.B == b) || (p.A == b && p.B == a)
theorem likeB_comm (m : Mp) (a b : Int) : likeB m a b = likeB m b a := by
  unfold likeB
  rw [Bool.eq_iff_iff]
  simp only [Bool.or_eq_true, List.any_eq_true, Bool.and_eq_true, beq_iff_eq]
  constructor
  · rintro (h | ⟨p, hp, h⟩)
    · exact .inl h.symm
    · exact .inr ⟨p, hp, h.elim (fun h => .inr h) (fun h => .inl h)⟩
  · rintro (h | ⟨p, hp, h⟩)
    · exact .inl h.symm
    · exact .inr ⟨p, hp, h.elim (fun h => .inr h) (fun h => .inl h)⟩
theorem besideB_comm (all : List Sp) (s : Pr) (a b : Int) : besideB all s a b = besideB all s b a := by
  unfold besideB; rw [Bool.or_comm]
theorem metB_comm (m : Mp) (l : List Int) (a b : Int) : metB m l a b = metB m l b a := by
  unfold metB; congr 1; funext s; exact besideB_comm _ s a b

def clash (P : Nat → Bool) (Q : Int → Bool) : List Int → Nat → Bool
  | [], _ => false
  | x :: xs, b => (P b && Q x) || clash P Q xs (b + 1)
theorem clash_iff {P : Nat → Bool} {Q : Int → Bool} : ∀ (l : List Int) (b : Nat), clash P Q l b = true ↔ ∃ i : Nat, i < l.length ∧ P (b + i) = true ∧ Q l[i]! = true := by
  intro l
  induction l with
  | nil => intro b; simp [clash]
  | cons x xs ih =>
    intro b
    rw [clash, Bool.or_eq_true, Bool.and_eq_true, ih]
    constructor
    · rintro (h | ⟨i, h1, h2, h3⟩)
      · exact ⟨0, by simp, by simpa using h.1, by simpa using h.2⟩
      · exact ⟨i + 1, by simpa using h1, by rwa [show b + (i + 1) = b + 1 + i from by omega], by simpa using h3⟩
    · rintro ⟨i, h1, h2, h3⟩
      cases i with
      | zero => exact .inl ⟨by simpa using h2, by simpa using h3⟩
      | succ i => exact .inr ⟨i, by simpa using h1, by rwa [show b + (i + 1) = b + 1 + i from by omega] at h2, by simpa using h3⟩
def fine (m : Mp) (l : List Int) (pre : List Int) (ink : Int) : Bool := !clash (fun b => metB m l pre.length b) (likeB m ink) pre 0
def paintS (m : Mp) (l : List Int) : List Int := srch (fine m l) m.Inks.toNat (l.length + 1) []
def paints (m : Mp) (l : List Int) : List Int × Int × Int := if (chkLeg m l).2 = 0 then (if paintS m l = [] then ([], 0, 9) else (paintS m l, (cnt (paintS m l) : Int), 0)) else ([], 0, (chkLeg m l).2)
end Go.Proofs.Ytpkhbbboedoldaa
