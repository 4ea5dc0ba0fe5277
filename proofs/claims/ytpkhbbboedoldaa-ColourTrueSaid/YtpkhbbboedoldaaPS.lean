/- What Paint of the reference comes to, in plain words. -/
import Derived.Test.YtpkhbbboedoldaaPP
import Derived.Test.YtpkhbbboedoldaaPM
import Derived.Test.YtpkhbbboedoldaaDR
import Derived.Test.YtpkhbbboedoldaaDHS
namespace Go.Proofs.Ytpkhbbboedoldaa
open Go Go.Sx
set_option linter.all false

theorem any_loop {α β : Type} {l : List α} {L : Nat → Int → Option (β ⊕ Unit)} {p : α → Bool} {r : β} (h62 : l.length < 2 ^ 62)
    (h0 : ∀ n c, ¬ c < (l.length : Int) → L (n + 1) c = some (.inr ()))
    (h1 : ∀ n c x, x ∈ l → 0 ≤ c → c < (l.length : Int) → idx l c = some x → L (n + 1) c = if p x then some (.inl r) else L n (w64 (c + 1))) :
    ∀ (suf pre : List α) (n : Nat) (c : Int), l = pre ++ suf → c = pre.length → suf.length < n → L n c = some (if suf.any p then .inl r else .inr ()) := by
  intro suf
  induction suf with
  | nil =>
    intro pre n c hl hc hn
    obtain ⟨n, rfl⟩ : ∃ m, n = m + 1 := ⟨n - 1, by simp at hn; omega⟩
    rw [h0 n c (by rw [hl]; simp; omega)]; rfl
  | cons x suf ih =>
    intro pre n c hl hc hn
    simp only [List.length_cons] at hn
    obtain ⟨n, rfl⟩ : ∃ m, n = m + 1 := ⟨n - 1, by omega⟩
    have hlen : l.length = pre.length + (suf.length + 1) := by rw [hl]; simp
    rw [h1 n c x (by rw [hl]; simp) (by omega) (by omega) (by rw [hl]; exact idx_mid hc), List.any_cons]
    cases p x with
    | true => simp
    | false =>
      rw [if_neg (by simp), w64_id (by omega) (by omega), ih (pre ++ [x]) n (c + 1) (by simp [hl]) (by simp; omega) (by omega), Bool.false_or]

theorem e46 {k : Nat} {l : List Int} {n : Int} (hk : l.length < k) (h62 : l.length < 2 ^ 62) : F46 k l n = some (l.contains n) := by
  unfold F46
  rw [any_loop (l := l) (L := F46L1 l n) (p := fun x => x == n) (r := true) h62 (fun k c h => by rw [F46L1, if_neg (by simpa using h)])
    (fun k c x hx h0 h1 hi => by rw [F46L1, if_pos (by simpa using h1), hi]; rfl) l [] k 0 rfl rfl hk, Option.bind_some]
  have e : (l.any fun x => x == n) = l.contains n := by
    rw [Bool.eq_iff_iff, List.contains_iff_mem, List.any_eq_true]
    exact ⟨fun ⟨x, h, e⟩ => by rw [← eq_of_beq e]; exact h, fun h => ⟨n, h, by simp⟩⟩
  rw [e]
  cases l.contains n <;> rfl
theorem e48 {k : Nat} {l : List Int} (hk : l.length < k) (h62 : l.length < 2 ^ 62) : F48 k l = some (cnt l : Int) := by
  have key : ∀ (suf pre : List Int) (n : Nat) (a c : Int), l = pre ++ suf → c = pre.length → suf.length < n → 0 ≤ a → a ≤ pre.length → F48L1 k l n (a, c) = some (.inr (a + cntG pre suf)) := by
    intro suf
    induction suf with
    | nil =>
      intro pre n a c hl hc hn h0 h1
      obtain ⟨n, rfl⟩ : ∃ m, n = m + 1 := ⟨n - 1, by simp at hn; omega⟩
      rw [F48L1, if_neg (by rw [hl]; simp; omega)]; simp [cntG]
    | cons x suf ih =>
      intro pre n a c hl hc hn h0 h1
      simp only [List.length_cons] at hn
      obtain ⟨n, rfl⟩ : ∃ m, n = m + 1 := ⟨n - 1, by omega⟩
      have hlen : l.length = pre.length + (suf.length + 1) := by rw [hl]; simp
      have hix : idx l c = some x := by rw [hl]; exact idx_mid hc
      have htk : l.take c.toNat = pre := by rw [hl, hc, Int.toNat_natCast, List.take_left' rfl]
      rw [F48L1, if_pos (by simp; omega)]
      dsimp only
      rw [sub_take (by omega) (by omega), Option.bind_some, hix, Option.bind_some, htk, e46 (by omega) (by omega), Option.bind_some, cntG]
      cases pre.contains x with
      | true =>
        rw [Bool.not_true, if_neg (by simp), w64_id (by omega) (by omega), ih (pre ++ [x]) n _ (c + 1) (by simp [hl]) (by simp; omega) (by omega) h0 (by simp; omega)]
        simp
      | false =>
        rw [Bool.not_false, if_pos rfl, w64_id (by omega) (by omega), w64_id (by omega) (by omega), ih (pre ++ [x]) n _ (c + 1) (by simp [hl]) (by simp; omega) (by omega) (by omega) (by simp; omega)]
        simp; omega
  unfold F48
  rw [key l [] k 0 0 rfl rfl hk (by omega) (by simp), Option.bind_some, outK_inr]
  simp [cnt]
theorem e49 {k : Nat} {m : Mp} {a b : Int} (hk : m.Like.length < k) (h62 : m.Like.length < 2 ^ 62) : F49 k m a b = some (likeB m a b) := by
  unfold F49 likeB
  cases hab : a == b with
  | true => rfl
  | false =>
    rw [if_neg (by simp), any_loop (l := m.Like) (L := F49L1 m a b) (p := fun p => (p.A == a && p.B == b) || (p.A == b && p.B == a)) (r := true) h62 (fun k c h => by rw [F49L1, if_neg (by simpa using h)])
      (fun k c x hx h0 h1 hi => by
        rw [F49L1, if_pos (by simpa using h1), hi, Option.bind_some]
        cases x.A == a <;> cases x.B == b <;> cases x.A == b <;> cases x.B == a <;> rfl) m.Like [] k 0 rfl rfl hk, Option.bind_some]
    cases m.Like.any fun p => (p.A == a && p.B == b) || (p.A == b && p.B == a) <;> rfl

theorem mem_rowM {P : Int → Bool} {a : Int} {p : Pr} : ∀ (n : Nat) (b : Int), p ∈ rowM P a n b ↔ p.A = a ∧ b ≤ p.B ∧ p.B < b + n ∧ P p.B = true := by
  intro n
  induction n with
  | zero => intro b; simp [rowM]; omega
  | succ n ih =>
    intro b
    rw [rowM]
    cases h : P b with
    | true =>
      rw [if_pos rfl, List.mem_cons, ih]
      constructor
      · rintro (rfl | ⟨h1, h2, h3, h4⟩)
        · exact ⟨rfl, by simp, by simp; omega, h⟩
        · exact ⟨h1, by omega, by omega, h4⟩
      · rintro ⟨h1, h2, h3, h4⟩
        by_cases he : p.B = b
        · left; cases p; simp_all
        · exact .inr ⟨h1, by omega, by omega, h4⟩
    | false =>
      rw [if_neg (by simp), ih]
      constructor
      · rintro ⟨h1, h2, h3, h4⟩
        exact ⟨h1, by omega, by omega, h4⟩
      · rintro ⟨h1, h2, h3, h4⟩
        by_cases he : p.B = b
        · rw [he, h] at h4; cases h4
        · exact ⟨h1, by omega, by omega, h4⟩
theorem mem_metM {m : Mp} {l : List Int} {p : Pr} : ∀ (d : Nat) (a : Int), 0 ≤ a → a + d = l.length + 1 → (p ∈ metM m l d a ↔ a ≤ p.A ∧ p.A < p.B ∧ p.B ≤ l.length ∧ metB m l p.A p.B = true) := by
  intro d
  induction d with
  | zero => intro a h0 h1; simp [metM]; omega
  | succ d ih =>
    intro a h0 h1
    rw [metM, List.mem_append, mem_rowM, ih (a + 1) (by omega) (by omega)]
    constructor
    · rintro (⟨h2, h3, h4, h5⟩ | ⟨h2, h3⟩)
      · exact ⟨by omega, by omega, by omega, by rw [h2]; exact h5⟩
      · exact ⟨by omega, h3⟩
    · rintro ⟨h2, h3, h4, h5⟩
      by_cases he : p.A = a
      · exact .inl ⟨he, by omega, by omega, by rw [← he]; exact h5⟩
      · exact .inr ⟨by omega, h3, h4, h5⟩

/-- The bands that meet are painted so far. -/
def pnt (m : Mp) (l x : List Int) : Bool := !(metM m l (l.length + 1) 0).any fun p => decide (p.B < (x.length : Int)) && likeB m x[p.A.toNat]! x[p.B.toNat]!
theorem pnt_iff {m : Mp} {l x : List Int} : pnt m l x = true ↔ ∀ a b : Nat, a < b → b ≤ l.length → metB m l a b = true → b < x.length → likeB m x[a]! x[b]! = false := by
  unfold pnt
  rw [Bool.not_eq_true', List.any_eq_false]
  constructor
  · intro h a b hab hb hm hx
    have := h ⟨a, b⟩ ((mem_metM _ 0 (by omega) (by omega)).2 ⟨by simp, by simp; omega, by simp; omega, hm⟩)
    simpa [hx] using this
  · intro h p hp
    obtain ⟨h1, h2, h3, h4⟩ := (mem_metM _ 0 (by omega) (by omega)).1 hp
    rw [Bool.and_eq_true, decide_eq_true_eq]
    rintro ⟨h5, h6⟩
    have := h p.A.toNat p.B.toNat (by omega) (by omega) (by rw [Int.toNat_of_nonneg (by omega), Int.toNat_of_nonneg (by omega)]; exact h4) (by omega)
    rw [this] at h6; cases h6
theorem snoc_bang {x : List Int} {i : Int} {j : Nat} (h : j < x.length) : (x ++ [i])[j]! = x[j]! := by
  rw [getElem!_pos (x ++ [i]) j (by simp; omega), getElem!_pos x j h, List.getElem_append_left h]
theorem snoc_last {x : List Int} {i : Int} : (x ++ [i])[x.length]! = i := by
  rw [getElem!_pos (x ++ [i]) x.length (by simp)]; simp
theorem fine_iff {m : Mp} {l x : List Int} {i : Int} : fine m l x i = true ↔ ∀ a : Nat, a < x.length → metB m l a x.length = true → likeB m x[a]! i = false := by
  unfold fine
  rw [Bool.not_eq_true', ← Bool.not_eq_true, clash_iff]
  constructor
  · intro h a ha hm
    rw [← Bool.not_eq_true]
    intro hq
    exact h ⟨a, ha, by rw [metB_comm]; simpa using hm, by rw [likeB_comm]; exact hq⟩
  · rintro h ⟨a, ha, hm, hq⟩
    have := h a ha (by rw [metB_comm]; simpa using hm)
    rw [likeB_comm, this] at hq; cases hq
theorem pnt_snoc {m : Mp} {l x : List Int} {i : Int} (hx : x.length ≤ l.length) (hp : pnt m l x = true) : pnt m l (x ++ [i]) = fine m l x i := by
  rw [Bool.eq_iff_iff, pnt_iff, fine_iff]
  rw [pnt_iff] at hp
  constructor
  · intro h a ha hm
    have := h a x.length ha hx hm (by simp)
    rwa [snoc_bang ha, snoc_last] at this
  · intro h a b hab hb hm hl
    simp only [List.length_append, List.length_singleton] at hl
    by_cases he : b = x.length
    · subst he
      rw [snoc_bang hab, snoc_last]
      exact h a hab hm
    · rw [snoc_bang (by omega), snoc_bang (by omega)]
      exact hp a b hab hb hm (by omega)

theorem e87 {k : Nat} (hk : 40 ≤ k) {m : Mp} (hlk : m.Like.length ≤ 8) {l x : List Int} (hl : l.length ≤ 5) : F87 k m (metM m l (l.length + 1) 0) x = some (pnt m l x) := by
  have hlen := metM_len (m := m) hl (l.length + 1) 0
  unfold F87 pnt
  rw [any_loop (l := metM m l (l.length + 1) 0) (L := F87L1 k m (metM m l (l.length + 1) 0) x) (p := fun p => decide (p.B < (x.length : Int)) && likeB m x[p.A.toNat]! x[p.B.toNat]!) (r := false) (by omega)
    (fun k c h => by rw [F87L1, if_neg (by simpa using h)])
    (fun n c p hp h0 h1 hi => by
      obtain ⟨q1, q2, q3, q4⟩ := (mem_metM _ 0 (by omega) (by omega)).1 hp
      rw [F87L1, if_pos (by simpa using h1), hi, Option.bind_some]
      by_cases hb : p.B < (x.length : Int)
      · simp only [decide_eq_true hb, optG_true, Option.bind_some, Bool.true_and, cond_true]
        rw [idx_bang (by omega) (by omega), Option.bind_some, idx_bang (by omega) (by omega), Option.bind_some, e49 (by omega) (by omega), Option.bind_some]
      · simp only [decide_eq_false hb, optG_false, Option.bind_some, Bool.false_and, cond_false]) (metM m l (l.length + 1) 0) [] k 0 rfl rfl (by omega), Option.bind_some]
  cases (metM m l (l.length + 1) 0).any fun p => decide (p.B < (x.length : Int)) && likeB m x[p.A.toNat]! x[p.B.toNat]! <;> rfl

theorem min_loop {L : Nat → (List Int × Int) → Option (List Int ⊕ List Int)} {f : Int → List Int} {K : Int} (hf : ∀ c, (f c).length ≤ 6) (h0 : ∀ n acc c, ¬ c < K → L (n + 1) (acc, c) = some (.inr acc))
    (h1 : ∀ n acc c, acc.length ≤ 6 → 0 ≤ c → c < K → L (n + 1) (acc, c) = L n (mrg acc (f c), c + 1)) : ∀ (d n : Nat) (i : Int) (acc : List Int), i + d = K → d < n → 0 ≤ i → acc.length ≤ 6 → L n (acc, i) = some (.inr (srchK f d i acc)) := by
  intro d
  induction d with
  | zero =>
    intro n i acc hi hn h2 ha
    obtain ⟨n, rfl⟩ : ∃ m, n = m + 1 := ⟨n - 1, by omega⟩
    rw [h0 n acc i (by omega)]; rfl
  | succ d ih =>
    intro n i acc hi hn h2 ha
    obtain ⟨n, rfl⟩ : ∃ m, n = m + 1 := ⟨n - 1, by omega⟩
    rw [h1 n acc i ha h2 (by omega), srchK, ih n (i + 1) _ (by omega) (by omega) (by omega) ((mrg_or acc (f i)).elim (fun h => by rw [h]; exact ha) (fun h => by rw [h]; exact hf i))]

theorem srch_len {fine : List Int → Int → Bool} {K n : Nat} {pre : List Int} (h : pre.length + n ≤ 6) : (srch fine K n pre).length ≤ 6 := by
  rcases srch_ext (fine := fine) (K := K) n pre with h1 | ⟨r, h1, h2⟩
  · rw [h1]; simp
  · rw [h1]; simp; omega
theorem mrg_if {k : Nat} (hk : 40 ≤ k) {acc x : List Int} (ha : acc.length ≤ 6) (hx : x.length ≤ 6) {β : Type} {f : List Int → Option β} :
    ((optG ((!(Nat.beq x.length 0)) && (!(Nat.beq acc.length 0))) (F48 k x)).bind fun x13 => (optG ((!(Nat.beq x.length 0)) && (!(Nat.beq acc.length 0))) (F48 k acc)).bind fun x14 =>
      if (cond (!(Nat.beq x.length 0)) (cond (Nat.beq acc.length 0) true (decide (x13 < x14))) false) then f x else f acc) = f (mrg acc x) := by
  rw [e48 (by omega) (by omega), e48 (by omega) (by omega)]
  cases x with
  | nil =>
    rw [mrg_nil]
    cases acc <;> rfl
  | cons y ys =>
    cases acc with
    | nil => rw [nil_mrg]; rfl
    | cons a as =>
      change (if decide ((cnt (y :: ys) : Int) < (cnt (a :: as) : Int)) = true then f (y :: ys) else f (a :: as)) = _
      by_cases h : cnt (y :: ys) < cnt (a :: as)
      · rw [if_pos (by simp; omega), mrg_lt (by simp) (.inr h)]
      · rw [if_neg (by simp; omega), mrg_ge (by simp) (.inr (by omega))]

theorem e71 {m : Mp} (g : GoodM m) {l : List Int} (hl : l.length ≤ 5) : ∀ (d k : Nat) (pre : List Int), 60 + d ≤ k → pre.length + d = l.length + 1 → pnt m l pre = true → 0 < pre.length →
    F71 k m (metM m l (l.length + 1) 0) pre ((l.length : Int) + 1) = some (srch (fine m l) m.Inks.toNat d pre) := by
  have hi0 := g.i0
  have hi1 := g.i1
  have hlk := g.l1
  intro d
  induction d with
  | zero =>
    intro k pre hk hN hp h0
    obtain ⟨k, rfl⟩ : ∃ m, k = m + 1 := ⟨k - 1, by omega⟩
    rw [F71, B71, if_pos (by simp; omega), need_true h0]; rfl
  | succ d ih =>
    intro k pre hk hN hp h0
    obtain ⟨k, rfl⟩ : ∃ m, k = m + 1 := ⟨k - 1, by omega⟩
    rw [F71, B71, if_neg (by simp; omega)]
    rw [min_loop (L := F71L1 (k + 1) (F71 k) m (metM m l (l.length + 1) 0) pre ((l.length : Int) + 1)) (f := fun i => if fine m l pre i then srch (fine m l) m.Inks.toNat d (pre ++ [i]) else []) (K := m.Inks)
      (fun c => by
        by_cases h : fine m l pre c = true
        · rw [if_pos h]; exact srch_len (by simp; omega)
        · rw [if_neg h]; simp)
      (fun n acc c h => by rw [F71L1, if_neg (by simpa using h)])
      (fun n acc c ha hc0 hc1 => by
        rw [F71L1, if_pos (by simpa using hc1), List.nil_append]
        rw [need_true (by simp; omega), Option.bind_some, need_true (by simp; omega), Option.bind_some, e87 (by omega) (by omega) hl, Option.bind_some, pnt_snoc (by omega) hp, w64_id (by omega) (by omega)]
        cases hf : fine m l pre c with
        | false => rw [Bool.not_false, if_pos rfl, if_neg (by simp), mrg_nil]
        | true =>
          rw [Bool.not_true, if_neg (by simp), if_pos rfl, ih k (pre ++ [c]) (by omega) (by simp; omega) (by rw [pnt_snoc (by omega) hp]; exact hf) (by simp), Option.bind_some]
          exact mrg_if (by omega) ha (srch_len (by simp; omega)) (f := fun y => F71L1 (k + 1) (F71 k) m (metM m l (l.length + 1) 0) pre ((l.length : Int) + 1) n (y, c + 1))) m.Inks.toNat (k + 1) 0 [] (by omega) (by omega) (by omega) (by simp), Option.bind_some, outK_inr, srch]

theorem e71v {m : Mp} (g : GoodM m) {l : List Int} (hl : l.length ≤ 5) {k : Nat} (hk : 80 ≤ k) : F71v1 k m (metM m l (l.length + 1) 0) [] ((l.length : Int) + 1) = some (paintS m l) := by
  have hi0 := g.i0
  have hi1 := g.i1
  have hlk := g.l1
  have hp : pnt m l [] = true := by rw [pnt_iff]; intro a b _ _ _ h; simp at h
  unfold F71v1 paintS
  rw [if_neg (by simp; omega)]
  rw [min_loop (L := F71v1L1 k m (metM m l (l.length + 1) 0) ((l.length : Int) + 1)) (f := fun i => if fine m l [] i then srch (fine m l) m.Inks.toNat l.length ([] ++ [i]) else []) (K := m.Inks)
      (fun c => by
        by_cases h : fine m l [] c = true
        · rw [if_pos h]; exact srch_len (by simp; omega)
        · rw [if_neg h]; simp)
      (fun n acc c h => by rw [F71v1L1, if_neg (by simpa using h)])
      (fun n acc c ha hc0 hc1 => by
        rw [F71v1L1, if_pos (by simpa using hc1), List.nil_append]
        rw [need_true (by simp), Option.bind_some, need_true (by simp), Option.bind_some, e87 (by omega) (by omega) hl, Option.bind_some, pnt_snoc (by simp) hp, w64_id (by omega) (by omega)]
        cases hf : fine m l [] c with
        | false => rw [Bool.not_false, if_pos rfl, if_neg (by simp), mrg_nil]
        | true =>
          rw [Bool.not_true, if_neg (by simp), if_pos rfl, e71 g hl l.length k ([] ++ [c]) (by omega) (by simp; omega) (by rw [pnt_snoc (by simp) hp]; exact hf) (by simp), Option.bind_some]
          exact mrg_if (by omega) ha (srch_len (by simp; omega)) (f := fun y => F71v1L1 k m (metM m l (l.length + 1) 0) ((l.length : Int) + 1) n (y, c + 1))) m.Inks.toNat k 0 [] (by omega) (by omega) (by omega) (by simp), Option.bind_some, outK_inr, srch]

theorem paintS_len {m : Mp} {l : List Int} (hl : l.length ≤ 5) : (paintS m l).length ≤ 6 := srch_len (by simp; omega)
end Go.Proofs.Ytpkhbbboedoldaa
