/- The search for the first painting with the fewest different inks: the number of inks, and which of two paintings is taken. -/
import Derived.Test.YtpkhbbboedoldaaPG
import Derived.Test.YtpkhbbboedoldaaDP
import Derived.KernelRfl
import Derived.Test.YtpkhbbboedoldaaDR
import Derived.Test.YtpkhbbboedoldaaDHS
import Derived.Test.YtpkhbbboedoldaaDJ
namespace Go.Proofs.Ytpkhbbboedoldaa
open Go Go.Sx
set_option linter.all false

def cntG : List Int → List Int → Nat
  | _, [] => 0
  | s, x :: xs => (if s.contains x then 0 else 1) + cntG (s ++ [x]) xs
def cnt (l : List Int) : Nat := cntG [] l
theorem cntG_append : ∀ (a b s : List Int), cntG s (a ++ b) = cntG s a + cntG (s ++ a) b := by
  intro a
  induction a with
  | nil => intro b s; simp [cntG]
  | cons x xs ih =>
    intro b s
    rw [List.cons_append, cntG, cntG, ih, List.append_assoc, List.singleton_append]
    omega
theorem cnt_snoc (l : List Int) (x : Int) : cnt (l ++ [x]) = cnt l + if l.contains x then 0 else 1 := by
  rw [cnt, cntG_append, List.nil_append, cntG, cntG]; rfl
theorem cnt_le (a b : List Int) : cnt a ≤ cnt (a ++ b) := by rw [cnt, cnt, cntG_append]; omega

def mrg (acc x : List Int) : List Int := if x = [] then acc else if acc = [] then x else if cnt x < cnt acc then x else acc
theorem mrg_nil (a : List Int) : mrg a [] = a := if_pos rfl
theorem nil_mrg (a : List Int) : mrg [] a = a := by
  unfold mrg
  by_cases h : a = []
  · rw [if_pos h, h]
  · rw [if_neg h, if_pos rfl]
theorem mrg_lt {a x : List Int} (hx : x ≠ []) (h : a = [] ∨ cnt x < cnt a) : mrg a x = x := by
  unfold mrg
  rw [if_neg hx]
  by_cases ha : a = []
  · rw [if_pos ha]
  · rw [if_neg ha, if_pos (h.resolve_left ha)]
theorem mrg_ge {a x : List Int} (ha : a ≠ []) (h : x = [] ∨ cnt a ≤ cnt x) : mrg a x = a := by
  unfold mrg
  by_cases hx : x = []
  · rw [if_pos hx]
  · rw [if_neg hx, if_neg ha, if_neg (by have := h.resolve_left hx; omega)]
theorem mrg_assoc (a b c : List Int) : mrg (mrg a b) c = mrg a (mrg b c) := by
  by_cases hb : b = []
  · subst hb; rw [mrg_nil, nil_mrg]
  by_cases ha : a = []
  · subst ha; rw [nil_mrg, nil_mrg]
  by_cases hc : c = []
  · subst hc; rw [mrg_nil, mrg_nil]
  by_cases h1 : cnt b < cnt a
  · rw [mrg_lt hb (.inr h1)]
    by_cases h2 : cnt c < cnt b
    · rw [mrg_lt hc (.inr h2), mrg_lt hc (.inr (by omega))]
    · rw [mrg_ge hb (.inr (by omega)), mrg_lt hb (.inr h1)]
  · rw [mrg_ge ha (.inr (by omega))]
    by_cases h2 : cnt c < cnt b
    · rw [mrg_lt hc (.inr h2)]
    · rw [mrg_ge hb (.inr (by omega)), mrg_ge ha (.inr (by omega)), mrg_ge ha (.inr (by omega))]

def srchK (f : Int → List Int) : Nat → Int → List Int → List Int
  | 0, _, acc => acc
  | d + 1, i, acc => srchK f d (i + 1) (mrg acc (f i))
theorem srchK_mrg {f : Int → List Int} : ∀ (d : Nat) (i : Int) (a b : List Int), srchK f d i (mrg a b) = mrg a (srchK f d i b) := by
  intro d
  induction d with
  | zero => intro i a b; rfl
  | succ d ih => intro i a b; rw [srchK, srchK, mrg_assoc, ih]
theorem srchK_ind {f : Int → List Int} {P : List Int → Prop} (hm : ∀ a b, P a → P b → P (mrg a b)) : ∀ (d : Nat) (i : Int) (a : List Int), P a → (∀ j : Nat, j < d → P (f (i + j))) → P (srchK f d i a) := by
  intro d
  induction d with
  | zero => intro i a h _; exact h
  | succ d ih =>
    intro i a h hf
    rw [srchK]
    refine ih _ _ (hm _ _ h (by simpa using hf 0 (by omega))) fun j hj => ?_
    have := hf (j + 1) (by omega)
    rwa [show i + ((j + 1 : Nat) : Int) = i + 1 + (j : Int) from by omega] at this
theorem mrg_or (a b : List Int) : mrg a b = a ∨ mrg a b = b := by
  unfold mrg
  by_cases h1 : b = []
  · rw [if_pos h1]; exact .inl rfl
  · rw [if_neg h1]
    by_cases h2 : a = []
    · rw [if_pos h2]; exact .inr rfl
    · rw [if_neg h2]
      by_cases h3 : cnt b < cnt a
      · rw [if_pos h3]; exact .inr rfl
      · rw [if_neg h3]; exact .inl rfl

def srch (fine : List Int → Int → Bool) (K : Nat) : Nat → List Int → List Int
  | 0, pre => pre
  | n + 1, pre => srchK (fun i => if fine pre i then srch fine K n (pre ++ [i]) else []) K 0 []
theorem srch_ext {fine : List Int → Int → Bool} {K : Nat} : ∀ (n : Nat) (pre : List Int), srch fine K n pre = [] ∨ ∃ r, srch fine K n pre = pre ++ r ∧ r.length = n := by
  intro n
  induction n with
  | zero => intro pre; exact .inr ⟨[], by simp [srch], rfl⟩
  | succ n ih =>
    intro pre
    rw [srch]
    refine srchK_ind (P := fun x => x = [] ∨ ∃ r, x = pre ++ r ∧ r.length = n + 1) (fun a b ha hb => (mrg_or a b).elim (fun h => by rw [h]; exact ha) (fun h => by rw [h]; exact hb)) K 0 [] (.inl rfl) fun j _ => ?_
    by_cases h : fine pre (0 + j) = true
    · rw [if_pos h]
      rcases ih (pre ++ [0 + (j : Int)]) with h1 | ⟨r, h1, h2⟩
      · exact .inl h1
      · exact .inr ⟨(0 + (j : Int)) :: r, by rw [h1, List.append_assoc]; rfl, by simp [h2]⟩
    · rw [if_neg h]; exact .inl rfl
theorem srch_prune {fine : List Int → Int → Bool} {K n : Nat} {pre acc : List Int} (ha : acc ≠ []) (h : cnt acc ≤ cnt pre) : mrg acc (srch fine K n pre) = acc := by
  rcases srch_ext (fine := fine) (K := K) n pre with h1 | ⟨r, h1, _⟩
  · exact mrg_ge ha (.inl h1)
  · refine mrg_ge ha (.inr ?_)
    rw [h1]
    have := cnt_le pre r
    omega

/-- Two inks are alike. -/
def likeB (m : Mp) (a b : Int) : Bool := (a == b) || m.Like.any fun p => (p.A == a && p.B == b) || (p.A == b && p.B == a)
theorem likeB_comm (m : Mp) (a b : Int) : likeB m a b = likeB m b a := by
  unfold likeB
  rw [Bool.eq_iff_iff]
  simp only [Bool.or_eq_true, List.any_eq_true, Bool.and_eq_true, beq_iff_eq]
  constructor
  · rintro (h | ⟨p, hp, h⟩)
    · exact .inl h.symm
    · exact .inr ⟨p, hp, h.elim (fun h => .inr h) (fun h => .inl h)⟩
  · rintro (h | ⟨p, hp, h⟩)
    · exact .inl h.symm
    · exact .inr ⟨p, hp, h.elim (fun h => .inr h) (fun h => .inl h)⟩
theorem besideB_comm (all : List Sp) (s : Pr) (a b : Int) : besideB all s a b = besideB all s b a := by
  unfold besideB; rw [Bool.or_comm]
theorem metB_comm (m : Mp) (l : List Int) (a b : Int) : metB m l a b = metB m l b a := by
  unfold metB; congr 1; funext s; exact besideB_comm _ s a b

def clash (P : Nat → Bool) (Q : Int → Bool) : List Int → Nat → Bool
  | [], _ => false
  | x :: xs, b => (P b && Q x) || clash P Q xs (b + 1)
theorem clash_iff {P : Nat → Bool} {Q : Int → Bool} : ∀ (l : List Int) (b : Nat), clash P Q l b = true ↔ ∃ i : Nat, i < l.length ∧ P (b + i) = true ∧ Q l[i]! = true := by
  intro l
  induction l with
  | nil => intro b; simp [clash]
  | cons x xs ih =>
    intro b
    rw [clash, Bool.or_eq_true, Bool.and_eq_true, ih]
    constructor
    · rintro (h | ⟨i, h1, h2, h3⟩)
      · exact ⟨0, by simp, by simpa using h.1, by simpa using h.2⟩
      · exact ⟨i + 1, by simpa using h1, by rwa [show b + (i + 1) = b + 1 + i from by omega], by simpa using h3⟩
    · rintro ⟨i, h1, h2, h3⟩
      cases i with
      | zero => exact .inl ⟨by simpa using h2, by simpa using h3⟩
      | succ i => exact .inr ⟨i, by simpa using h1, by rwa [show b + (i + 1) = b + 1 + i from by omega] at h2, by simpa using h3⟩
def fine (m : Mp) (l : List Int) (pre : List Int) (ink : Int) : Bool := !clash (fun b => metB m l pre.length b) (likeB m ink) pre 0
def paintS (m : Mp) (l : List Int) : List Int := srch (fine m l) m.Inks.toNat (l.length + 1) []
def paints (m : Mp) (l : List Int) : List Int × Int × Int := if (chkLeg m l).2 = 0 then (if paintS m l = [] then ([], 0, 9) else (paintS m l, (cnt (paintS m l) : Int), 0)) else ([], 0, (chkLeg m l).2)
end Go.Proofs.Ytpkhbbboedoldaa
namespace Go.Proofs.Ytpkhbbboedoldaa
open Go Go.Sx
set_option linter.all false

def pop (u : Nat) : Nat := (List.range 6).countP fun i => u.testBit i
theorem e70_all : ((List.range 64).all fun u => F70 (IntKind.u64.wrap (u : Int)) == some ((pop u : Nat) : Int)) = true := by kernel_rfl
theorem e70 {u : Nat} (h : u < 64) : F70 (IntKind.u64.wrap (u : Int)) = some ((pop u : Nat) : Int) := by
  have := List.all_eq_true.1 e70_all u (List.mem_range.2 h)
  exact eq_of_beq this
theorem pop_all : ((List.range 64).all fun u => (List.range 6).all fun i => pop (u ||| 2 ^ i) == pop u + (if u.testBit i then 0 else 1) && Nat.blt (u ||| 2 ^ i) 64) = true := by kernel_rfl
theorem pop_or {u i : Nat} (h : u < 64) (hi : i < 6) : pop (u ||| 2 ^ i) = pop u + (if u.testBit i then 0 else 1) ∧ u ||| 2 ^ i < 64 := by
  have := List.all_eq_true.1 (List.all_eq_true.1 pop_all u (List.mem_range.2 h)) i (List.mem_range.2 hi)
  rw [Bool.and_eq_true] at this
  exact ⟨eq_of_beq this.1, by simpa using this.2⟩

structure UsedOk (u : Nat) (pre : List Int) : Prop where
  lt : u < 64
  num : pop u = cnt pre
  bit : ∀ i : Nat, i < 6 → (u.testBit i = true ↔ (i : Int) ∈ pre)
theorem UsedOk.snoc {u : Nat} {pre : List Int} (h : UsedOk u pre) {i : Nat} (hi : i < 6) : UsedOk (u ||| 2 ^ i) (pre ++ [(i : Int)]) := by
  obtain ⟨h1, h2⟩ := pop_or h.lt hi
  refine ⟨h2, ?_, fun j hj => ?_⟩
  · rw [h1, h.num, cnt_snoc]
    congr 1
    have := h.bit i hi
    by_cases hb : u.testBit i = true
    · rw [if_pos hb, if_pos (by rw [List.contains_iff_mem]; exact this.1 hb)]
    · rw [if_neg hb, if_neg (by rw [List.contains_iff_mem]; exact fun hm => hb (this.2 hm))]
  · rw [Nat.testBit_or, Nat.testBit_two_pow, Bool.or_eq_true, h.bit j hj, List.mem_append, List.mem_singleton, decide_eq_true_eq]
    exact or_congr_right ⟨fun e => by omega, fun e => by omega⟩
theorem used_nil : UsedOk 0 [] := ⟨by omega, by decide, fun i _ => by simp⟩

theorem likeM_iff {m : Mp} {a b : Nat} (ha : (a : Int) < m.Inks) : likeM m m.Like a b ↔ likeB m a b = true := by
  unfold likeM likeP likeB
  simp only [Bool.or_eq_true, List.any_eq_true, Bool.and_eq_true, beq_iff_eq]
  constructor
  · rintro (⟨h, _⟩ | ⟨p, hp, h⟩)
    · exact .inl (by omega)
    · exact .inr ⟨p, hp, h⟩
  · rintro (h | ⟨p, hp, h⟩)
    · exact .inl ⟨by omega, ha⟩
    · exact .inr ⟨p, hp, h⟩
theorem e68 {m : Mp} {l : List Int} {c : S_colour_chart} (hc : ChartOk m l c.vec) (g : GoodM m) {a b : Int} (ha : 0 ≤ a ∧ a < m.Inks) (hb : 0 ≤ b ∧ b < m.Inks) : F68 (some c) a b = some (likeB m a b) := by
  have h6 := g.i1
  obtain ⟨a, rfl⟩ : ∃ n : Nat, a = n := ⟨a.toNat, by omega⟩
  obtain ⟨b, rfl⟩ : ∃ n : Nat, b = n := ⟨b.toNat, by omega⟩
  obtain ⟨n, h1, h2, h3⟩ := hc.bit a (by omega)
  have hl := hc.len
  unfold F68
  rw [Option.bind_some, need_true (by omega), Option.bind_some, Int.toNat_natCast, Nat.mul_one, get_bang (by omega), Option.bind_some, need_true (by omega), Option.bind_some, h1, Int.toNat_natCast, Nat.min_eq_left (by omega)]
  congr 1
  have e1 : ((n : Int) / 2 ^ b) = ((n / 2 ^ b : Nat) : Int) := by norm_cast
  have e2 : n / 2 ^ b < 2 ^ 62 := Nat.lt_of_le_of_lt (Nat.div_le_self _ _) (by omega)
  rw [e1]
  rw [show (1 : Int) = ((1 : Nat) : Int) from rfl, bits_and _ 1 e2 (by omega), Nat.and_one_is_mod]
  rw [Bool.eq_iff_iff, ← likeM_iff ha.2, ← h3 b, Nat.testBit_eq_decide_div_mod_eq, beq_iff_eq, decide_eq_true_eq]
  omega
end Go.Proofs.Ytpkhbbboedoldaa
namespace Go.Proofs.Ytpkhbbboedoldaa
open Go Go.Sx
set_option linter.all false

theorem any_loop {α β : Type} {l : List α} {L : Nat → Int → Option (β ⊕ Unit)} {p : α → Bool} {r : β} (h62 : l.length < 2 ^ 62)
    (h0 : ∀ n c, ¬ c < (l.length : Int) → L (n + 1) c = some (.inr ()))
    (h1 : ∀ n c x, x ∈ l → 0 ≤ c → c < (l.length : Int) → idx l c = some x → L (n + 1) c = if p x then some (.inl r) else L n (w64 (c + 1))) :
    ∀ (suf pre : List α) (n : Nat) (c : Int), l = pre ++ suf → c = pre.length → suf.length < n → L n c = some (if suf.any p then .inl r else .inr ()) := by
  intro suf
  induction suf with
  | nil =>
    intro pre n c hl hc hn
    obtain ⟨n, rfl⟩ : ∃ m, n = m + 1 := ⟨n - 1, by simp at hn; omega⟩
    rw [h0 n c (by rw [hl]; simp; omega)]; rfl
  | cons x suf ih =>
    intro pre n c hl hc hn
    simp only [List.length_cons] at hn
    obtain ⟨n, rfl⟩ : ∃ m, n = m + 1 := ⟨n - 1, by omega⟩
    have hlen : l.length = pre.length + (suf.length + 1) := by rw [hl]; simp
    rw [h1 n c x (by rw [hl]; simp) (by omega) (by omega) (by rw [hl]; exact idx_mid hc), List.any_cons]
    cases p x with
    | true => simp
    | false =>
      rw [if_neg (by simp), w64_id (by omega) (by omega), ih (pre ++ [x]) n (c + 1) (by simp [hl]) (by simp; omega) (by omega), Bool.false_or]

theorem e46 {k : Nat} {l : List Int} {n : Int} (hk : l.length < k) (h62 : l.length < 2 ^ 62) : F46 k l n = some (l.contains n) := by
  unfold F46
  rw [any_loop (l := l) (L := F46L1 l n) (p := fun x => x == n) (r := true) h62 (fun k c h => by rw [F46L1, if_neg (by simpa using h)])
    (fun k c x hx h0 h1 hi => by rw [F46L1, if_pos (by simpa using h1), hi]; rfl) l [] k 0 rfl rfl hk, Option.bind_some]
  have e : (l.any fun x => x == n) = l.contains n := by
    rw [Bool.eq_iff_iff, List.contains_iff_mem, List.any_eq_true]
    exact ⟨fun ⟨x, h, e⟩ => by rw [← eq_of_beq e]; exact h, fun h => ⟨n, h, by simp⟩⟩
  rw [e]
  cases l.contains n <;> rfl
theorem e48 {k : Nat} {l : List Int} (hk : l.length < k) (h62 : l.length < 2 ^ 62) : F48 k l = some (cnt l : Int) := by
  have key : ∀ (suf pre : List Int) (n : Nat) (a c : Int), l = pre ++ suf → c = pre.length → suf.length < n → 0 ≤ a → a ≤ pre.length → F48L1 k l n (a, c) = some (.inr (a + cntG pre suf)) := by
    intro suf
    induction suf with
    | nil =>
      intro pre n a c hl hc hn h0 h1
      obtain ⟨n, rfl⟩ : ∃ m, n = m + 1 := ⟨n - 1, by simp at hn; omega⟩
      rw [F48L1, if_neg (by rw [hl]; simp; omega)]; simp [cntG]
    | cons x suf ih =>
      intro pre n a c hl hc hn h0 h1
      simp only [List.length_cons] at hn
      obtain ⟨n, rfl⟩ : ∃ m, n = m + 1 := ⟨n - 1, by omega⟩
      have hlen : l.length = pre.length + (suf.length + 1) := by rw [hl]; simp
      have hix : idx l c = some x := by rw [hl]; exact idx_mid hc
      have htk : l.take c.toNat = pre := by rw [hl, hc, Int.toNat_natCast, List.take_left' rfl]
      rw [F48L1, if_pos (by simp; omega)]
      dsimp only
      rw [sub_take (by omega) (by omega), Option.bind_some, hix, Option.bind_some, htk, e46 (by omega) (by omega), Option.bind_some, cntG]
      cases pre.contains x with
      | true =>
        rw [Bool.not_true, if_neg (by simp), w64_id (by omega) (by omega), ih (pre ++ [x]) n _ (c + 1) (by simp [hl]) (by simp; omega) (by omega) h0 (by simp; omega)]
        simp
      | false =>
        rw [Bool.not_false, if_pos rfl, w64_id (by omega) (by omega), w64_id (by omega) (by omega), ih (pre ++ [x]) n _ (c + 1) (by simp [hl]) (by simp; omega) (by omega) (by omega) (by simp; omega)]
        simp; omega
  unfold F48
  rw [key l [] k 0 0 rfl rfl hk (by omega) (by simp), Option.bind_some, outK_inr]
  simp [cnt]
theorem e49 {k : Nat} {m : Mp} {a b : Int} (hk : m.Like.length < k) (h62 : m.Like.length < 2 ^ 62) : F49 k m a b = some (likeB m a b) := by
  unfold F49 likeB
  cases hab : a == b with
  | true => rfl
  | false =>
    rw [if_neg (by simp), any_loop (l := m.Like) (L := F49L1 m a b) (p := fun p => (p.A == a && p.B == b) || (p.A == b && p.B == a)) (r := true) h62 (fun k c h => by rw [F49L1, if_neg (by simpa using h)])
      (fun k c x hx h0 h1 hi => by
        rw [F49L1, if_pos (by simpa using h1), hi, Option.bind_some]
        cases x.A == a <;> cases x.B == b <;> cases x.A == b <;> cases x.B == a <;> rfl) m.Like [] k 0 rfl rfl hk, Option.bind_some]
    cases m.Like.any fun p => (p.A == a && p.B == b) || (p.A == b && p.B == a) <;> rfl

theorem mem_rowM {P : Int → Bool} {a : Int} {p : Pr} : ∀ (n : Nat) (b : Int), p ∈ rowM P a n b ↔ p.A = a ∧ b ≤ p.B ∧ p.B < b + n ∧ P p.B = true := by
  intro n
  induction n with
  | zero => intro b; simp [rowM]; omega
  | succ n ih =>
    intro b
    rw [rowM]
    cases h : P b with
    | true =>
      rw [if_pos rfl, List.mem_cons, ih]
      constructor
      · rintro (rfl | ⟨h1, h2, h3, h4⟩)
        · exact ⟨rfl, by simp, by simp; omega, h⟩
        · exact ⟨h1, by omega, by omega, h4⟩
      · rintro ⟨h1, h2, h3, h4⟩
        by_cases he : p.B = b
        · left; cases p; simp_all
        · exact .inr ⟨h1, by omega, by omega, h4⟩
    | false =>
      rw [if_neg (by simp), ih]
      constructor
      · rintro ⟨h1, h2, h3, h4⟩
        exact ⟨h1, by omega, by omega, h4⟩
      · rintro ⟨h1, h2, h3, h4⟩
        by_cases he : p.B = b
        · rw [he, h] at h4; cases h4
        · exact ⟨h1, by omega, by omega, h4⟩
theorem mem_metM {m : Mp} {l : List Int} {p : Pr} : ∀ (d : Nat) (a : Int), 0 ≤ a → a + d = l.length + 1 → (p ∈ metM m l d a ↔ a ≤ p.A ∧ p.A < p.B ∧ p.B ≤ l.length ∧ metB m l p.A p.B = true) := by
  intro d
  induction d with
  | zero => intro a h0 h1; simp [metM]; omega
  | succ d ih =>
    intro a h0 h1
    rw [metM, List.mem_append, mem_rowM, ih (a + 1) (by omega) (by omega)]
    constructor
    · rintro (⟨h2, h3, h4, h5⟩ | ⟨h2, h3⟩)
      · exact ⟨by omega, by omega, by omega, by rw [h2]; exact h5⟩
      · exact ⟨by omega, h3⟩
    · rintro ⟨h2, h3, h4, h5⟩
      by_cases he : p.A = a
      · exact .inl ⟨he, by omega, by omega, by rw [← he]; exact h5⟩
      · exact .inr ⟨by omega, h3, h4, h5⟩

/-- The bands that meet are painted so far. -/
def pnt (m : Mp) (l x : List Int) : Bool := !(metM m l (l.length + 1) 0).any fun p => decide (p.B < (x.length : Int)) && likeB m x[p.A.toNat]! x[p.B.toNat]!
theorem pnt_iff {m : Mp} {l x : List Int} : pnt m l x = true ↔ ∀ a b : Nat, a < b → b ≤ l.length → metB m l a b = true → b < x.length → likeB m x[a]! x[b]! = false := by
  unfold pnt
  rw [Bool.not_eq_true', List.any_eq_false]
  constructor
  · intro h a b hab hb hm hx
    have := h ⟨a, b⟩ ((mem_metM _ 0 (by omega) (by omega)).2 ⟨by simp, by simp; omega, by simp; omega, hm⟩)
    simpa [hx] using this
  · intro h p hp
    obtain ⟨h1, h2, h3, h4⟩ := (mem_metM _ 0 (by omega) (by omega)).1 hp
    rw [Bool.and_eq_true, decide_eq_true_eq]
    rintro ⟨h5, h6⟩
    have := h p.A.toNat p.B.toNat (by omega) (by omega) (by rw [Int.toNat_of_nonneg (by omega), Int.toNat_of_nonneg (by omega)]; exact h4) (by omega)
    rw [this] at h6; cases h6
theorem snoc_bang {x : List Int} {i : Int} {j : Nat} (h : j < x.length) : (x ++ [i])[j]! = x[j]! := by
  rw [getElem!_pos (x ++ [i]) j (by simp; omega), getElem!_pos x j h, List.getElem_append_left h]
theorem snoc_last {x : List Int} {i : Int} : (x ++ [i])[x.length]! = i := by
  rw [getElem!_pos (x ++ [i]) x.length (by simp)]; simp
theorem fine_iff {m : Mp} {l x : List Int} {i : Int} : fine m l x i = true ↔ ∀ a : Nat, a < x.length → metB m l a x.length = true → likeB m x[a]! i = false := by
  unfold fine
  rw [Bool.not_eq_true', ← Bool.not_eq_true, clash_iff]
  constructor
  · intro h a ha hm
    rw [← Bool.not_eq_true]
    intro hq
    exact h ⟨a, ha, by rw [metB_comm]; simpa using hm, by rw [likeB_comm]; exact hq⟩
  · rintro h ⟨a, ha, hm, hq⟩
    have := h a ha (by rw [metB_comm]; simpa using hm)
    rw [likeB_comm, this] at hq; cases hq
theorem pnt_snoc {m : Mp} {l x : List Int} {i : Int} (hx : x.length ≤ l.length) (hp : pnt m l x = true) : pnt m l (x ++ [i]) = fine m l x i := by
  rw [Bool.eq_iff_iff, pnt_iff, fine_iff]
  rw [pnt_iff] at hp
  constructor
  · intro h a ha hm
    have := h a x.length ha hx hm (by simp)
    rwa [snoc_bang ha, snoc_last] at this
  · intro h a b hab hb hm hl
    simp only [List.length_append, List.length_singleton] at hl
    by_cases he : b = x.length
    · subst he
      rw [snoc_bang hab, snoc_last]
      exact h a hab hm
    · rw [snoc_bang (by omega), snoc_bang (by omega)]
      exact hp a b hab hb hm (by omega)

theorem e87 {k : Nat} (hk : 40 ≤ k) {m : Mp} (hlk : m.Like.length ≤ 8) {l x : List Int} (hl : l.length ≤ 5) : F87 k m (metM m l (l.length + 1) 0) x = some (pnt m l x) := by
  have hlen := metM_len (m := m) hl (l.length + 1) 0
  unfold F87 pnt
  rw [any_loop (l := metM m l (l.length + 1) 0) (L := F87L1 k m (metM m l (l.length + 1) 0) x) (p := fun p => decide (p.B < (x.length : Int)) && likeB m x[p.A.toNat]! x[p.B.toNat]!) (r := false) (by omega)
    (fun k c h => by rw [F87L1, if_neg (by simpa using h)])
    (fun n c p hp h0 h1 hi => by
      obtain ⟨q1, q2, q3, q4⟩ := (mem_metM _ 0 (by omega) (by omega)).1 hp
      rw [F87L1, if_pos (by simpa using h1), hi, Option.bind_some]
      by_cases hb : p.B < (x.length : Int)
      · simp only [decide_eq_true hb, optG_true, Option.bind_some, Bool.true_and, cond_true]
        rw [idx_bang (by omega) (by omega), Option.bind_some, idx_bang (by omega) (by omega), Option.bind_some, e49 (by omega) (by omega), Option.bind_some]
      · simp only [decide_eq_false hb, optG_false, Option.bind_some, Bool.false_and, cond_false]) (metM m l (l.length + 1) 0) [] k 0 rfl rfl (by omega), Option.bind_some]
  cases (metM m l (l.length + 1) 0).any fun p => decide (p.B < (x.length : Int)) && likeB m x[p.A.toNat]! x[p.B.toNat]! <;> rfl

theorem min_loop {L : Nat → (List Int × Int) → Option (List Int ⊕ List Int)} {f : Int → List Int} {K : Int} (hf : ∀ c, (f c).length ≤ 6) (h0 : ∀ n acc c, ¬ c < K → L (n + 1) (acc, c) = some (.inr acc))
    (h1 : ∀ n acc c, acc.length ≤ 6 → 0 ≤ c → c < K → L (n + 1) (acc, c) = L n (mrg acc (f c), c + 1)) : ∀ (d n : Nat) (i : Int) (acc : List Int), i + d = K → d < n → 0 ≤ i → acc.length ≤ 6 → L n (acc, i) = some (.inr (srchK f d i acc)) := by
  intro d
  induction d with
  | zero =>
    intro n i acc hi hn h2 ha
    obtain ⟨n, rfl⟩ : ∃ m, n = m + 1 := ⟨n - 1, by omega⟩
    rw [h0 n acc i (by omega)]; rfl
  | succ d ih =>
    intro n i acc hi hn h2 ha
    obtain ⟨n, rfl⟩ : ∃ m, n = m + 1 := ⟨n - 1, by omega⟩
    rw [h1 n acc i ha h2 (by omega), srchK, ih n (i + 1) _ (by omega) (by omega) (by omega) ((mrg_or acc (f i)).elim (fun h => by rw [h]; exact ha) (fun h => by rw [h]; exact hf i))]

theorem srch_len {fine : List Int → Int → Bool} {K n : Nat} {pre : List Int} (h : pre.length + n ≤ 6) : (srch fine K n pre).length ≤ 6 := by
  rcases srch_ext (fine := fine) (K := K) n pre with h1 | ⟨r, h1, h2⟩
  · rw [h1]; simp
  · rw [h1]; simp; omega
theorem mrg_if {k : Nat} (hk : 40 ≤ k) {acc x : List Int} (ha : acc.length ≤ 6) (hx : x.length ≤ 6) {β : Type} {f : List Int → Option β} :
    ((optG ((!(Nat.beq x.length 0)) && (!(Nat.beq acc.length 0))) (F48 k x)).bind fun x13 => (optG ((!(Nat.beq x.length 0)) && (!(Nat.beq acc.length 0))) (F48 k acc)).bind fun x14 =>
      if (cond (!(Nat.beq x.length 0)) (cond (Nat.beq acc.length 0) true (decide (x13 < x14))) false) then f x else f acc) = f (mrg acc x) := by
  rw [e48 (by omega) (by omega), e48 (by omega) (by omega)]
  cases x with
  | nil =>
    rw [mrg_nil]
    cases acc <;> rfl
  | cons y ys =>
    cases acc with
    | nil => rw [nil_mrg]; rfl
    | cons a as =>
      change (if decide ((cnt (y :: ys) : Int) < (cnt (a :: as) : Int)) = true then f (y :: ys) else f (a :: as)) = _
      by_cases h : cnt (y :: ys) < cnt (a :: as)
      · rw [if_pos (by simp; omega), mrg_lt (by simp) (.inr h)]
      · rw [if_neg (by simp; omega), mrg_ge (by simp) (.inr (by omega))]

theorem e71 {m : Mp} (g : GoodM m) {l : List Int} (hl : l.length ≤ 5) : ∀ (d k : Nat) (pre : List Int), 60 + d ≤ k → pre.length + d = l.length + 1 → pnt m l pre = true → 0 < pre.length →
    F71 k m (metM m l (l.length + 1) 0) pre ((l.length : Int) + 1) = some (srch (fine m l) m.Inks.toNat d pre) := by
  have hi0 := g.i0
  have hi1 := g.i1
  have hlk := g.l1
  intro d
  induction d with
  | zero =>
    intro k pre hk hN hp h0
    obtain ⟨k, rfl⟩ : ∃ m, k = m + 1 := ⟨k - 1, by omega⟩
    rw [F71, B71, if_pos (by simp; omega), need_true h0]; rfl
  | succ d ih =>
    intro k pre hk hN hp h0
    obtain ⟨k, rfl⟩ : ∃ m, k = m + 1 := ⟨k - 1, by omega⟩
    rw [F71, B71, if_neg (by simp; omega)]
    rw [min_loop (L := F71L1 (k + 1) (F71 k) m (metM m l (l.length + 1) 0) pre ((l.length : Int) + 1)) (f := fun i => if fine m l pre i then srch (fine m l) m.Inks.toNat d (pre ++ [i]) else []) (K := m.Inks)
      (fun c => by
        by_cases h : fine m l pre c = true
        · rw [if_pos h]; exact srch_len (by simp; omega)
        · rw [if_neg h]; simp)
      (fun n acc c h => by rw [F71L1, if_neg (by simpa using h)])
      (fun n acc c ha hc0 hc1 => by
        rw [F71L1, if_pos (by simpa using hc1), List.nil_append]
        rw [need_true (by simp; omega), Option.bind_some, need_true (by simp; omega), Option.bind_some, e87 (by omega) (by omega) hl, Option.bind_some, pnt_snoc (by omega) hp, w64_id (by omega) (by omega)]
        cases hf : fine m l pre c with
        | false => rw [Bool.not_false, if_pos rfl, if_neg (by simp), mrg_nil]
        | true =>
          rw [Bool.not_true, if_neg (by simp), if_pos rfl, ih k (pre ++ [c]) (by omega) (by simp; omega) (by rw [pnt_snoc (by omega) hp]; exact hf) (by simp), Option.bind_some]
          exact mrg_if (by omega) ha (srch_len (by simp; omega)) (f := fun y => F71L1 (k + 1) (F71 k) m (metM m l (l.length + 1) 0) pre ((l.length : Int) + 1) n (y, c + 1))) m.Inks.toNat (k + 1) 0 [] (by omega) (by omega) (by omega) (by simp), Option.bind_some, outK_inr, srch]

theorem e71v {m : Mp} (g : GoodM m) {l : List Int} (hl : l.length ≤ 5) {k : Nat} (hk : 80 ≤ k) : F71v1 k m (metM m l (l.length + 1) 0) [] ((l.length : Int) + 1) = some (paintS m l) := by
  have hi0 := g.i0
  have hi1 := g.i1
  have hlk := g.l1
  have hp : pnt m l [] = true := by rw [pnt_iff]; intro a b _ _ _ h; simp at h
  unfold F71v1 paintS
  rw [if_neg (by simp; omega)]
  rw [min_loop (L := F71v1L1 k m (metM m l (l.length + 1) 0) ((l.length : Int) + 1)) (f := fun i => if fine m l [] i then srch (fine m l) m.Inks.toNat l.length ([] ++ [i]) else []) (K := m.Inks)
      (fun c => by
        by_cases h : fine m l [] c = true
        · rw [if_pos h]; exact srch_len (by simp; omega)
        · rw [if_neg h]; simp)
      (fun n acc c h => by rw [F71v1L1, if_neg (by simpa using h)])
      (fun n acc c ha hc0 hc1 => by
        rw [F71v1L1, if_pos (by simpa using hc1), List.nil_append]
        rw [need_true (by simp), Option.bind_some, need_true (by simp), Option.bind_some, e87 (by omega) (by omega) hl, Option.bind_some, pnt_snoc (by simp) hp, w64_id (by omega) (by omega)]
        cases hf : fine m l [] c with
        | false => rw [Bool.not_false, if_pos rfl, if_neg (by simp), mrg_nil]
        | true =>
          rw [Bool.not_true, if_neg (by simp), if_pos rfl, e71 g hl l.length k ([] ++ [c]) (by omega) (by simp; omega) (by rw [pnt_snoc (by simp) hp]; exact hf) (by simp), Option.bind_some]
          exact mrg_if (by omega) ha (srch_len (by simp; omega)) (f := fun y => F71v1L1 k m (metM m l (l.length + 1) 0) ((l.length : Int) + 1) n (y, c + 1))) m.Inks.toNat k 0 [] (by omega) (by omega) (by omega) (by simp), Option.bind_some, outK_inr, srch]

theorem paintS_len {m : Mp} {l : List Int} (hl : l.length ≤ 5) : (paintS m l).length ≤ 6 := srch_len (by simp; omega)
end Go.Proofs.Ytpkhbbboedoldaa
namespace Go.Proofs.Ytpkhbbboedoldaa
open Go Go.Sx
set_option linter.all false

theorem e32 {k : Nat} (hk : 80 ≤ k) {m : Mp} {l : List Int} : F32 k m l = some (paints m l) := by
  unfold F32 paints
  rw [e20 (by omega), Option.bind_some]
  by_cases h : (chkLeg m l).2 = 0
  · obtain ⟨g, gl⟩ := chkLeg_good.1 h
    have hl : l.length ≤ 5 := by have := g.b1; have := gl.len; omega
    have hp := paintS_len (m := m) hl
    rw [if_neg (by simpa using h), if_pos h, e67 (by omega) g hl, Option.bind_some, w64_id (by omega) (by omega), e71v g hl hk, Option.bind_some]
    by_cases hn : paintS m l = []
    · rw [if_pos (by simp [hn]), if_pos hn]
    · rw [if_neg (by simpa using hn), if_neg hn, e48 (by omega) (by omega), Option.bind_some]
  · rw [if_pos (by simpa using h), if_neg h]

def anyN (p : Nat → Bool) : Nat → Nat → Bool
  | 0, _ => false
  | d + 1, b => p b || anyN p d (b + 1)
theorem anyN_iff {p : Nat → Bool} : ∀ (d b : Nat), anyN p d b = true ↔ ∃ i, b ≤ i ∧ i < b + d ∧ p i = true := by
  intro d
  induction d with
  | zero => intro b; simp [anyN]; intro i _ _; omega
  | succ d ih =>
    intro b
    rw [anyN, Bool.or_eq_true, ih]
    constructor
    · rintro (h | ⟨i, h1, h2, h3⟩)
      · exact ⟨b, by omega, by omega, h⟩
      · exact ⟨i, by omega, by omega, h3⟩
    · rintro ⟨i, h1, h2, h3⟩
      by_cases he : i = b
      · exact .inl (he ▸ h3)
      · exact .inr ⟨i, by omega, by omega, h3⟩
theorem any_loopN {β : Type} {N : Nat} {L : Nat → Int → Option (β ⊕ Unit)} {p : Nat → Bool} {r : β} (h0 : ∀ n (c : Int), ¬ c < (N : Int) → L (n + 1) c = some (.inr ()))
    (h1 : ∀ n (c : Nat), c < N → L (n + 1) (c : Int) = if p c then some (.inl r) else L n ((c : Int) + 1)) : ∀ (d n b : Nat), b + d = N → d < n → L n (b : Int) = some (if anyN p d b then .inl r else .inr ()) := by
  intro d
  induction d with
  | zero =>
    intro n b hb hn
    obtain ⟨n, rfl⟩ : ∃ m, n = m + 1 := ⟨n - 1, by omega⟩
    rw [h0 n b (by omega)]; rfl
  | succ d ih =>
    intro n b hb hn
    obtain ⟨n, rfl⟩ : ∃ m, n = m + 1 := ⟨n - 1, by omega⟩
    rw [h1 n b (by omega), anyN]
    cases p b with
    | true => simp
    | false => rw [if_neg (by simp), show (b : Int) + 1 = ((b + 1 : Nat) : Int) from by omega, ih n (b + 1) (by omega) (by omega), Bool.false_or]

def badInk (m : Mp) (n : Int) : Bool := decide (n < 0) || decide (n > m.Inks - 1)
def inksE (m : Mp) (l inks : List Int) : Int := if (chkLeg m l).2 = 0 then (if inks.length = l.length + 1 then (if inks.any (badInk m) then 4 else 0) else 3) else (chkLeg m l).2
theorem e73 {k : Nat} (hk : 20 ≤ k) {m : Mp} {l inks : List Int} : F73 k m l inks = some (inksE m l inks) := by
  unfold F73 inksE
  rw [e20 (by omega), Option.bind_some]
  have stop : ∀ (n : Nat) (e c : Int), 0 < n → e ≠ 0 → F73L1 m inks n (e, c) = some (.inr e) := by
    intro n e c hn he
    obtain ⟨n, rfl⟩ : ∃ m, n = m + 1 := ⟨n - 1, by omega⟩
    rw [F73L1, if_neg (by
      have : (e == 0) = false := by simpa using he
      rw [this]; cases decide (c < (inks.length : Int)) <;> simp)]
  by_cases h : (chkLeg m l).2 = 0
  · obtain ⟨g, gl⟩ := chkLeg_good.1 h
    have hl : l.length ≤ 5 := by have := g.b1; have := gl.len; omega
    have hi0 := g.i0
    have hi1 := g.i1
    rw [if_pos h, h]
    simp only [beq_self_eq_true, cond_true]
    rw [w64_id (by omega) (by omega)]
    by_cases hn : inks.length = l.length + 1
    · rw [if_neg (by simp; omega), if_pos hn, Option.bind_some, outK_inr]
      have key : ∀ (suf pre : List Int) (n : Nat) (c : Int), inks = pre ++ suf → c = pre.length → suf.length < n → F73L1 m inks n (0, c) = some (.inr (if suf.any (badInk m) then 4 else 0)) := by
        intro suf
        induction suf with
        | nil =>
          intro pre n c he hc hn'
          obtain ⟨n, rfl⟩ : ∃ m, n = m + 1 := ⟨n - 1, by simp at hn'; omega⟩
          rw [F73L1, if_neg (by rw [he]; simp; omega)]; rfl
        | cons x suf ih =>
          intro pre n c he hc hn'
          simp only [List.length_cons] at hn'
          obtain ⟨n, rfl⟩ : ∃ m, n = m + 1 := ⟨n - 1, by omega⟩
          have hlen : inks.length = pre.length + (suf.length + 1) := by rw [he]; simp
          have hix : idx inks c = some x := by rw [he]; exact idx_mid hc
          rw [F73L1, if_pos (by simp; omega)]
          dsimp only
          rw [hix, Option.bind_some, w64_id (by omega) (by omega), e61, Option.bind_some, w64_id (by omega) (by omega), List.any_cons]
          have hb : (!okN 0 (m.Inks - 1) x) = badInk m x := by
            rw [Bool.eq_iff_iff]; simp [okN, badInk]
          rw [hb]
          cases hb2 : badInk m x with
          | true =>
            rw [if_pos rfl, stop n 4 _ (by omega) (by omega)]; simp
          | false => rw [if_neg (by simp), ih (pre ++ [x]) n (c + 1) (by simp [he]) (by simp; omega) (by omega), Bool.false_or]
      rw [key inks [] k 0 rfl rfl (by omega), Option.bind_some, outK_inr]
    · rw [if_pos (by simp; omega), if_neg hn, Option.bind_some, outK_inr, stop k 3 0 (by omega) (by omega), Option.bind_some, outK_inr]
  · rw [if_neg (by
      have : ((chkLeg m l).2 == 0) = false := by simpa using h
      rw [this]; simp), if_neg h, Option.bind_some, outK_inr, stop k _ 0 (by omega) h, Option.bind_some, outK_inr]

/-- A side is mistaken. -/
def wrongB (m : Mp) (l inks : List Int) (s : Pr) : Bool := anyN (fun a => anyN (fun b => likeB m inks[a]! inks[b]! && besideB (alls m l) s a b) a 0) inks.length 0
theorem wrongB_iff {m : Mp} {l inks : List Int} {s : Pr} : wrongB m l inks s = true ↔ ∃ a b : Nat, b < a ∧ a < inks.length ∧ likeB m inks[a]! inks[b]! = true ∧ besideB (alls m l) s a b = true := by
  unfold wrongB
  rw [anyN_iff]
  constructor
  · rintro ⟨a, _, h1, h2⟩
    obtain ⟨b, _, h3, h4⟩ := (anyN_iff _ _).1 h2
    rw [Bool.and_eq_true] at h4
    exact ⟨a, b, by omega, by omega, h4⟩
  · rintro ⟨a, b, h1, h2, h3⟩
    exact ⟨a, by omega, by omega, (anyN_iff _ _).2 ⟨b, by omega, by omega, by rw [Bool.and_eq_true]; exact h3⟩⟩
theorem e74 {k : Nat} (hk : 20 ≤ k) {m : Mp} (g : GoodM m) {l inks : List Int} (hl : l.length ≤ 5) (hn : inks.length ≤ 6) {s : Pr} (hs : s ∈ m.Sides) : F74 k m l inks s = some (wrongB m l inks s) := by
  have hsid := g.sid s hs
  have hlk := g.l1
  have hal : (alls m l).length = m.Heights.length := by simp [alls]
  unfold F74 wrongB
  rw [e65 hk g.h1 hl, Option.bind_some]
  have e := any_loopN (N := inks.length) (L := F74L1 k m inks s (alls m l)) (p := fun a => anyN (fun b => likeB m inks[a]! inks[b]! && besideB (alls m l) s a b) a 0) (r := true)
    (fun n c h => by rw [F74L1, if_neg (by simpa using h)])
    (fun n a ha => by
      rw [F74L1, if_pos (by simpa using ha)]
      have e2 := any_loopN (N := a) (L := F74L2 k m inks s (alls m l) (a : Int)) (p := fun b => likeB m inks[a]! inks[b]! && besideB (alls m l) s a b) (r := true)
        (fun n c h => by rw [F74L2, if_neg (by simpa using h)])
        (fun n b hb => by
          rw [F74L2, if_pos (by simpa using hb), idx_nat (by omega), Option.bind_some, idx_nat (by omega), Option.bind_some, e49 (by omega) (by omega), Option.bind_some, w64_id (by omega) (by omega)]
          cases likeB m inks[a]! inks[b]! with
          | false => rfl
          | true => rw [optG_true, e84 (by omega) (by omega), Option.bind_some]; rfl) a k 0 (by omega) (by omega)
      rw [Int.natCast_zero] at e2
      rw [e2, Option.bind_some, w64_id (by omega) (by omega)]
      cases anyN (fun b => likeB m inks[a]! inks[b]! && besideB (alls m l) s a b) a 0 <;> rfl) inks.length k 0 (by omega) (by omega)
  rw [Int.natCast_zero] at e
  rw [e, Option.bind_some]
  cases anyN (fun a => anyN (fun b => likeB m inks[a]! inks[b]! && besideB (alls m l) s a b) a 0) inks.length 0 <;> rfl

def wrongs (p : Pr → Bool) : List Pr → Int → List Int
  | [], _ => []
  | s :: ss, i => if p s then i :: wrongs p ss (i + 1) else wrongs p ss (i + 1)
theorem wrongs_len (p : Pr → Bool) : ∀ (l : List Pr) (i : Int), (wrongs p l i).length ≤ l.length := by
  intro l
  induction l with
  | nil => intro i; simp [wrongs]
  | cons s ss ih => intro i; have := ih (i + 1); rw [wrongs]; split <;> simp <;> omega
theorem coll_loop {l : List Pr} {L : Nat → (Int × List Int) → Option ((List Int × Int) ⊕ List Int)} {p : Pr → Bool} (hl : l.length ≤ 10)
    (h0 : ∀ n c acc, ¬ c < (l.length : Int) → L (n + 1) (c, acc) = some (.inr acc))
    (h1 : ∀ n c acc x, x ∈ l → 0 ≤ c → c < (l.length : Int) → idx l c = some x → acc.length ≤ 10 → L (n + 1) (c, acc) = if p x then L n (c + 1, acc ++ [c]) else L n (c + 1, acc)) :
    ∀ (suf pre : List Pr) (n : Nat) (c : Int) (acc : List Int), l = pre ++ suf → c = pre.length → suf.length < n → acc.length ≤ pre.length → L n (c, acc) = some (.inr (acc ++ wrongs p suf c)) := by
  intro suf
  induction suf with
  | nil =>
    intro pre n c acc he hc hn ha
    obtain ⟨n, rfl⟩ : ∃ m, n = m + 1 := ⟨n - 1, by simp at hn; omega⟩
    rw [h0 n c acc (by rw [he]; simp; omega)]; simp [wrongs]
  | cons x suf ih =>
    intro pre n c acc he hc hn ha
    simp only [List.length_cons] at hn
    obtain ⟨n, rfl⟩ : ∃ m, n = m + 1 := ⟨n - 1, by omega⟩
    have hlen : l.length = pre.length + (suf.length + 1) := by rw [he]; simp
    rw [h1 n c acc x (by rw [he]; simp) (by omega) (by omega) (by rw [he]; exact idx_mid hc) (by omega), wrongs]
    cases p x with
    | true =>
      rw [if_pos rfl, if_pos rfl, ih (pre ++ [x]) n (c + 1) _ (by simp [he]) (by simp; omega) (by omega) (by simp; omega), List.append_assoc]; rfl
    | false => rw [if_neg (by simp), if_neg (by simp), ih (pre ++ [x]) n (c + 1) _ (by simp [he]) (by simp; omega) (by omega) (by simp; omega)]

def mist (m : Mp) (l inks : List Int) : List Int × Int := if inksE m l inks = 0 then (wrongs (wrongB m l inks) m.Sides 0, 0) else ([], inksE m l inks)
theorem inksE_good {m : Mp} {l inks : List Int} : inksE m l inks = 0 ↔ GoodM m ∧ GoodL m l ∧ inks.length = l.length + 1 ∧ ∀ x ∈ inks, 0 ≤ x ∧ x < m.Inks := by
  unfold inksE
  by_cases h : (chkLeg m l).2 = 0
  · rw [if_pos h]
    have hg := chkLeg_good.1 h
    by_cases hn : inks.length = l.length + 1
    · rw [if_pos hn]
      cases hb : inks.any (badInk m) with
      | true =>
        rw [if_pos rfl]
        obtain ⟨x, hx, h2⟩ := List.any_eq_true.1 hb
        refine ⟨fun h => by omega, fun h => ?_⟩
        have := h.2.2.2 x hx
        simp only [badInk, Bool.or_eq_true, decide_eq_true_eq] at h2
        omega
      | false =>
        rw [if_neg (by simp)]
        refine ⟨fun _ => ⟨hg.1, hg.2, hn, fun x hx => ?_⟩, fun _ => rfl⟩
        have := List.any_eq_false.1 hb x hx
        simp only [badInk, Bool.or_eq_true, decide_eq_true_eq] at this
        omega
    · rw [if_neg hn]
      exact ⟨fun h => by omega, fun h => absurd h.2.2.1 hn⟩
  · rw [if_neg h]
    exact ⟨fun h2 => absurd h2 h, fun h2 => chkLeg_good.2 ⟨h2.1, h2.2.1⟩⟩
theorem e34 {k : Nat} (hk : 20 ≤ k) {m : Mp} {l inks : List Int} : F34 k m l inks = some (mist m l inks) := by
  unfold F34 mist
  rw [e73 hk, Option.bind_some]
  by_cases h : inksE m l inks = 0
  · obtain ⟨g, gl, hn, hb⟩ := inksE_good.1 h
    have hl : l.length ≤ 5 := by have := g.b1; have := gl.len; omega
    have hs1 := g.s1
    rw [if_neg (by simpa using h), if_pos h, coll_loop (l := m.Sides) (L := F34L1 k m l inks) (p := wrongB m l inks) g.s1
      (fun n c acc hc => by rw [F34L1, if_neg (by simpa using hc)])
      (fun n c acc x hx hc0 hc1 hi ha => by
        rw [F34L1, if_pos (by simpa using hc1)]
        dsimp only
        rw [hi, Option.bind_some, e74 hk g hl (by omega) hx, Option.bind_some, w64_id (by omega) (by omega), need_true (by simp; omega), Option.bind_some]) m.Sides [] k 0 [] rfl rfl (by omega) (by simp), Option.bind_some, outK_inr, List.nil_append]
  · rw [if_pos (by simpa using h), if_neg h]
end Go.Proofs.Ytpkhbbboedoldaa
