/- The legend that leaves the fewest points unsure: what is looked for. -/
import Derived.Test.YtpkhbbboedoldaaPB
import Derived.Test.YtpkhbbboedoldaaDW
namespace Go.Proofs.Ytpkhbbboedoldaa
open Go Go.Sx
set_option linter.all false

def partsB (s : Sp) (n : Int) : Bool := decide (s.Lo < n) && decide (n ≤ s.Hi)
def newP (prev : Option Int) (n : Int) (h : Sp) : Bool := partsB h n && (match prev with | none => true | some p => !partsB h p)
def newN (hs : List Sp) (prev : Option Int) (n : Int) : Int := ((hs.countP (newP prev n) : Nat) : Int)
theorem newN_le (hs : List Sp) (prev : Option Int) (n : Int) : 0 ≤ newN hs prev n ∧ newN hs prev n ≤ hs.length := by
  have := List.countP_le_length (p := newP prev n) (l := hs)
  unfold newN; omega

def pick (acc x : Option (List Int × Int)) : Option (List Int × Int) :=
  match x with
  | none => acc
  | some p => match acc with
    | none => some p
    | some a => if p.2 < a.2 then some p else some a
def optK (f : Int → Option (List Int × Int)) : Nat → Int → Option (List Int × Int) → Option (List Int × Int)
  | 0, _, acc => acc
  | d + 1, i, acc => optK f d (i + 1) (pick acc (f i))
def opt (step : Int) (hs : List Sp) : List Sp → Option Int → Option (List Int × Int)
  | [], _ => some ([], 0)
  | b :: bs, prev => optK (fun n => if early step prev n then none else (opt step hs bs (some n)).map fun r => (n :: r.1, r.2 + newN hs prev n)) (b.Hi - b.Lo + 1).toNat b.Lo none

theorem pick_or (acc x : Option (List Int × Int)) : pick acc x = acc ∨ pick acc x = x := by
  unfold pick
  cases x with
  | none => exact .inl rfl
  | some p => cases acc with
    | none => exact .inr rfl
    | some a => dsimp only; by_cases h : p.2 < a.2
                · rw [if_pos h]; exact .inr rfl
                · rw [if_neg h]; exact .inl rfl
theorem pick_min {acc x : Option (List Int × Int)} {v : Int} (h : (∃ a, acc = some a ∧ a.2 ≤ v) ∨ ∃ p, x = some p ∧ p.2 ≤ v) : ∃ q, pick acc x = some q ∧ q.2 ≤ v := by
  unfold pick
  cases x with
  | none => rcases h with h | ⟨p, h, _⟩
            · exact h
            · cases h
  | some p => cases acc with
    | none => rcases h with ⟨a, h, _⟩ | ⟨q, h1, h2⟩
              · cases h
              · cases h1; exact ⟨p, rfl, h2⟩
    | some a =>
      dsimp only
      by_cases hlt : p.2 < a.2
      · rw [if_pos hlt]
        rcases h with ⟨b, h1, h2⟩ | ⟨q, h1, h2⟩
        · cases h1; exact ⟨p, rfl, by omega⟩
        · cases h1; exact ⟨p, rfl, h2⟩
      · rw [if_neg hlt]
        rcases h with ⟨b, h1, h2⟩ | ⟨q, h1, h2⟩
        · cases h1; exact ⟨a, rfl, h2⟩
        · cases h1; exact ⟨a, rfl, by omega⟩
theorem optK_some {f : Int → Option (List Int × Int)} : ∀ (d : Nat) (i : Int) (acc : Option (List Int × Int)) (x : List Int × Int), optK f d i acc = some x → acc = some x ∨ ∃ j : Nat, j < d ∧ f (i + j) = some x := by
  intro d
  induction d with
  | zero => intro i acc x h; exact .inl h
  | succ d ih =>
    intro i acc x h
    rw [optK] at h
    rcases ih _ _ _ h with h | ⟨j, h1, h2⟩
    · rcases pick_or acc (f i) with e | e
      · exact .inl (e ▸ h)
      · exact .inr ⟨0, by omega, by rw [e] at h; simpa using h⟩
    · exact .inr ⟨j + 1, by omega, by rw [show i + ((j + 1 : Nat) : Int) = i + 1 + j from by omega]; exact h2⟩
theorem optK_min {f : Int → Option (List Int × Int)} : ∀ (d : Nat) (i : Int) (acc : Option (List Int × Int)) (v : Int), ((∃ a, acc = some a ∧ a.2 ≤ v) ∨ ∃ j : Nat, j < d ∧ ∃ p, f (i + j) = some p ∧ p.2 ≤ v) →
    ∃ q, optK f d i acc = some q ∧ q.2 ≤ v := by
  intro d
  induction d with
  | zero =>
    intro i acc v h
    rcases h with h | ⟨j, h, _⟩
    · exact h
    · omega
  | succ d ih =>
    intro i acc v h
    rw [optK]
    refine ih _ _ v ?_
    rcases h with h | ⟨j, h1, p, h2, h3⟩
    · exact .inl (pick_min (.inl h))
    · cases j with
      | zero => exact .inl (pick_min (.inr ⟨p, by simpa using h2, h3⟩))
      | succ j => exact .inr ⟨j, by omega, p, by rwa [show i + ((j + 1 : Nat) : Int) = i + 1 + j from by omega] at h2, h3⟩

/-- Numbers of borders behind a number. -/
def Leg (step : Int) : Option Int → List Sp → List Int → Prop
  | _, [], [] => True
  | prev, b :: bs, n :: ns => (b.Lo ≤ n ∧ n ≤ b.Hi) ∧ early step prev n = false ∧ Leg step (some n) bs ns
  | _, _, _ => False
def cost (hs : List Sp) : Option Int → List Int → Int
  | _, [] => 0
  | prev, n :: ns => cost hs (some n) ns + newN hs prev n
theorem cost_nonneg (hs : List Sp) : ∀ (l : List Int) (prev : Option Int), 0 ≤ cost hs prev l ∧ cost hs prev l ≤ l.length * hs.length := by
  intro l
  induction l with
  | nil => intro prev; simp [cost]
  | cons n ns ih =>
    intro prev
    have := ih (some n)
    have := newN_le hs prev n
    simp only [cost, List.length_cons]
    have e : ((ns.length + 1 : Nat) : Int) * (hs.length : Int) = ns.length * hs.length + hs.length := by
      rw [Int.natCast_add, Int.add_mul]; omega
    omega
theorem Leg.len {step : Int} : ∀ {bs : List Sp} {l : List Int} {prev : Option Int}, Leg step prev bs l → l.length = bs.length := by
  intro bs
  induction bs with
  | nil => intro l prev h; cases l with
    | nil => rfl
    | cons n ns => exact h.elim
  | cons b bs ih => intro l prev h; cases l with
    | nil => exact h.elim
    | cons n ns => simp [ih h.2.2]
theorem opt_some {step : Int} {hs : List Sp} : ∀ {bs : List Sp} {prev : Option Int} {x : List Int × Int}, opt step hs bs prev = some x → Leg step prev bs x.1 ∧ x.2 = cost hs prev x.1 := by
  intro bs
  induction bs with
  | nil => intro prev x h; simp only [opt, Option.some.injEq] at h; subst h; exact ⟨trivial, rfl⟩
  | cons b bs ih =>
    intro prev x h
    rw [opt] at h
    rcases optK_some _ _ _ _ h with h | ⟨j, h1, h2⟩
    · cases h
    · by_cases he : early step prev (b.Lo + j) = true
      · rw [if_pos he] at h2; cases h2
      · rw [if_neg he] at h2
        cases ho : opt step hs bs (some (b.Lo + j)) with
        | none => rw [ho] at h2; cases h2
        | some y =>
          rw [ho] at h2
          simp only [Option.map_some, Option.some.injEq] at h2
          subst h2
          obtain ⟨h3, h4⟩ := ih ho
          exact ⟨⟨⟨by omega, by omega⟩, by simpa using he, h3⟩, by simp only [cost]; rw [h4]⟩
theorem opt_min {step : Int} {hs : List Sp} : ∀ {bs : List Sp} {prev : Option Int} {l : List Int}, Leg step prev bs l → ∃ x, opt step hs bs prev = some x ∧ x.2 ≤ cost hs prev l := by
  intro bs
  induction bs with
  | nil => intro prev l h; cases l with
    | nil => exact ⟨([], 0), rfl, by simp [cost]⟩
    | cons n ns => exact h.elim
  | cons b bs ih =>
    intro prev l h
    cases l with
    | nil => exact h.elim
    | cons n ns =>
      obtain ⟨h1, h2, h3⟩ := h
      obtain ⟨y, h4, h5⟩ := ih h3
      rw [opt]
      refine optK_min _ _ _ _ (.inr ⟨(n - b.Lo).toNat, by omega, (n :: y.1, y.2 + newN hs prev n), ?_, ?_⟩)
      · rw [show b.Lo + ((n - b.Lo).toNat : Int) = n from by omega, if_neg (by simp [h2]), h4]; rfl
      · simp only [cost]; omega
theorem opt_tail {step : Int} {hs : List Sp} {b : Sp} {bs : List Sp} {prev : Option Int} {n : Int} {r : List Int} {c : Int} (h : opt step hs (b :: bs) prev = some (n :: r, c)) : ∃ c', opt step hs bs (some n) = some (r, c') := by
  rw [opt] at h
  rcases optK_some _ _ _ _ h with h | ⟨j, h1, h2⟩
  · cases h
  · by_cases he : early step prev (b.Lo + j) = true
    · rw [if_pos he] at h2; cases h2
    · rw [if_neg he] at h2
      cases ho : opt step hs bs (some (b.Lo + j)) with
      | none => rw [ho] at h2; cases h2
      | some y =>
        rw [ho] at h2
        simp only [Option.map_some, Option.some.injEq, Prod.mk.injEq, List.cons.injEq] at h2
        obtain ⟨⟨h3, h4⟩, _⟩ := h2
        exact ⟨y.2, by rw [← h3, ho, ← h4]⟩
def best (m : Mp) : List Int × Int × Int :=
  if (chk m).2.2 = 0 then (match opt m.Step m.Heights m.Borders none with | none => ([], 0, 9) | some x => (x.1, x.2, 0)) else ([], 0, (chk m).2.2)
end Go.Proofs.Ytpkhbbboedoldaa
namespace Go.Proofs.Ytpkhbbboedoldaa
open Go Go.Sx
set_option linter.all false

theorem eqk_iff {a b : S_colour_state} : eqk112 a b = true ↔ a = b := by
  cases a; cases b; simp [eqk112]
theorem mget_mset {ν : Type} (k k' : S_colour_state) (v : ν) : ∀ l : List (S_colour_state × ν), mget eqk112 k (mset eqk112 k' v l) = if eqk112 k k' then some v else mget eqk112 k l := by
  intro l
  induction l with
  | nil => rfl
  | cons q qs ih =>
    rw [mset]
    cases h : eqk112 k' q.1 with
    | true =>
      have e := eqk_iff.1 h
      rw [if_pos rfl, mget, mget, ← e]
      cases eqk112 k k' <;> rfl
    | false =>
      rw [if_neg (by simp), mget, mget, ih]
      cases h2 : eqk112 k q.1 with
      | true =>
        have e := eqk_iff.1 h2
        rw [if_pos rfl, if_pos rfl, if_neg]
        intro h3
        rw [← eqk_iff.1 h3, e, eqk_iff.2 rfl] at h
        cases h
      | false => simp only [Bool.false_eq_true, if_false]

def prevOf (at_ border : Int) : Option Int := if at_ < 0 then none else some border
def resP : Option (List Int × Int) → S_colour_rest
  | none => ⟨0, -1⟩
  | some ([], c) => ⟨c, 0⟩
  | some (n :: _, c) => ⟨c, n⟩
def optOf (m : Mp) (k : S_colour_state) : Option (List Int × Int) := opt m.Step m.Heights (m.Borders.drop (k.at_ + 1).toNat) (prevOf k.at_ k.border)
def MemoOk (m : Mp) (mem : List (S_colour_state × S_colour_rest)) : Prop := ∀ k v, mget eqk112 k mem = some v → v = resP (optOf m k)
theorem MemoOk.set {m : Mp} {mem : List (S_colour_state × S_colour_rest)} (h : MemoOk m mem) {k : S_colour_state} {v : S_colour_rest} (hv : v = resP (optOf m k)) : MemoOk m (mset eqk112 k v mem) := by
  intro k' v' h'
  rw [mget_mset] at h'
  cases he : eqk112 k' k with
  | true => rw [he, if_pos rfl] at h'; rw [← Option.some.inj h', hv, eqk_iff.1 he]
  | false => rw [he, if_neg (by simp)] at h'; exact h k' v' h'

theorem opt_bd {m : Mp} (g : GoodM m) {bs : List Sp} (hb : bs.length ≤ 5) {prev : Option Int} {x : List Int × Int} (h : opt m.Step m.Heights bs prev = some x) : 0 ≤ x.2 ∧ x.2 ≤ 40 := by
  obtain ⟨h1, h2⟩ := opt_some h
  have h3 := cost_nonneg m.Heights x.1 prev
  have h4 := h1.len
  have h5 : ((x.1.length * m.Heights.length : Nat) : Int) ≤ ((5 * 8 : Nat) : Int) := Int.ofNat_le.2 (Nat.mul_le_mul (by omega) g.h1)
  rw [Int.natCast_mul] at h5
  omega

theorem newP_of {s : S_colour_state} {n : Int} {h : Sp} : (cond (partsB h n) (cond (decide (s.at_ < 0)) true (!partsB h s.border)) false) = newP (prevOf s.at_ s.border) n h := by
  unfold newP prevOf
  by_cases h0 : s.at_ < 0
  · rw [if_pos h0, decide_eq_true h0]; cases partsB h n <;> rfl
  · rw [if_neg h0, decide_eq_false h0]; cases partsB h n <;> rfl
theorem e75 (s : Sp) (n : Int) : F75 s n = some (partsB s n) := by
  unfold F75 partsB; cases decide (s.Lo < n) <;> rfl
theorem e76L2 {hs : List Sp} {s : S_colour_state} {x3 : Sp} {c5 : Int × List (S_colour_state × S_colour_rest) × Int × Int} {bd : Int} (hbd : w64 (x3.Lo + c5.1) = bd) (h8 : hs.length ≤ 8) : ∀ (suf pre : List Sp) (n : Nat) (c x : Int), hs = pre ++ suf → c = pre.length → suf.length < n → 0 ≤ x → x + suf.length ≤ 100 →
    F76L2 s hs x3 c5 n (c, x) = some (.inr (x + newN suf (prevOf s.at_ s.border) bd)) := by
  intro suf
  induction suf with
  | nil =>
    intro pre n c x hl hc hn h0 h1
    obtain ⟨n, rfl⟩ : ∃ m, n = m + 1 := ⟨n - 1, by simp at hn; omega⟩
    rw [F76L2, if_neg (by rw [hl]; simp; omega)]; simp [newN]
  | cons t suf ih =>
    intro pre n c x hl hc hn h0 h1
    simp only [List.length_cons] at hn
    obtain ⟨n, rfl⟩ : ∃ m, n = m + 1 := ⟨n - 1, by omega⟩
    have hlen : hs.length = pre.length + (suf.length + 1) := by rw [hl]; simp
    have hix : idx hs c = some t := by rw [hl]; exact idx_mid hc
    have hnew := newN_le suf (prevOf s.at_ s.border) bd
    simp only [List.length_cons] at h1
    rw [F76L2, if_pos (by simp; omega)]
    dsimp only
    rw [hix, Option.bind_some, hbd, e75, Option.bind_some, e75]
    have e1 : optG (partsB t bd && !decide (s.at_ < 0)) (some (partsB t s.border)) = some (cond (partsB t bd && !decide (s.at_ < 0)) (partsB t s.border) default) := by
      cases partsB t bd && !decide (s.at_ < 0) <;> rfl
    have e2 : (cond (partsB t bd) (cond (decide (s.at_ < 0)) true (!cond (partsB t bd && !decide (s.at_ < 0)) (partsB t s.border) default)) false) = newP (prevOf s.at_ s.border) bd t := by
      rw [← newP_of]
      cases partsB t bd <;> cases decide (s.at_ < 0) <;> rfl
    rw [e1, Option.bind_some, e2]
    have e3 : newN (t :: suf) (prevOf s.at_ s.border) bd = (if newP (prevOf s.at_ s.border) bd t then 1 else 0) + newN suf (prevOf s.at_ s.border) bd := by
      unfold newN
      rw [List.countP_cons]
      cases newP (prevOf s.at_ s.border) bd t <;> simp <;> omega
    rw [e3]
    cases newP (prevOf s.at_ s.border) bd t with
    | true =>
      rw [if_pos rfl, if_pos rfl]
      rw [w64_id (by omega) (by omega), w64_id (by omega) (by omega), ih (pre ++ [t]) n (c + 1) (x + 1) (by simp [hl]) (by simp; omega) (by omega) (by omega) (by omega), Int.add_assoc]
    | false =>
      rw [if_neg (by simp), if_neg (by simp), w64_id (by omega) (by omega), ih (pre ++ [t]) n (c + 1) x (by simp [hl]) (by simp; omega) (by omega) h0 (by omega), Int.zero_add]
def accRel : Option (List Int × Int) → Int → Int → Prop
  | none, many, next => many = 0 ∧ next = -1
  | some ([], _), _, _ => False
  | some (n :: _, c), many, next => many = c ∧ next = n ∧ 0 ≤ n
theorem accRel_res {x : Option (List Int × Int)} {a b : Int} (h : accRel x a b) : (⟨a, b⟩ : S_colour_rest) = resP x := by
  match x, h with
  | none, h => rw [h.1, h.2]; rfl
  | some (n :: _, c), h => rw [h.1, h.2.1]; rfl
theorem resP_neg {m : Mp} (g : GoodM m) {bs : List Sp} (hbs : ∀ s ∈ bs, s ∈ m.Borders) {prev : Option Int} : (resP (opt m.Step m.Heights bs prev)).next < 0 ↔ opt m.Step m.Heights bs prev = none := by
  cases h : opt m.Step m.Heights bs prev with
  | none => simp [resP]
  | some x =>
    obtain ⟨l, c⟩ := x
    have hL := (opt_some h).1
    cases l with
    | nil => simp [resP]
    | cons n ns =>
      cases bs with
      | nil => exact hL.elim
      | cons b bs =>
        have := g.bor b (hbs b (by simp))
        have := hL.1
        simp [resP]; omega
theorem resP_some {m : Mp} {bs : List Sp} {prev : Option Int} {x : List Int × Int} (h : opt m.Step m.Heights bs prev = some x) : (resP (opt m.Step m.Heights bs prev)).many = x.2 := by
  rw [h]
  obtain ⟨l, c⟩ := x
  cases l <;> rfl
theorem acc_pick {acc : Option (List Int × Int)} {many next n c : Int} {r : List Int} (h : accRel acc many next) (hn : 0 ≤ n) :
    accRel (pick acc (some (n :: r, c))) (if (cond (decide (next < 0)) true (decide (c < many))) = true then c else many) (if (cond (decide (next < 0)) true (decide (c < many))) = true then n else next) := by
  match acc, h with
  | none, h => rw [h.2]; exact ⟨rfl, rfl, hn⟩
  | some (n' :: r', c'), h =>
    obtain ⟨h1, h2, h3⟩ := h
    rw [decide_eq_false (by omega), cond_false, h1]
    unfold pick
    dsimp only
    by_cases hlt : c < c'
    · rw [if_pos hlt, if_pos (by simpa using hlt), if_pos (by simpa using hlt)]; exact ⟨rfl, rfl, hn⟩
    · rw [if_neg hlt, if_neg (by simpa using hlt), if_neg (by simpa using hlt)]; exact ⟨rfl, h2, h3⟩

theorem e76 {m : Mp} (g : GoodM m) : ∀ (d k : Nat) (s : S_colour_state) (mem : List (S_colour_state × S_colour_rest)), 40 + d ≤ k → -1 ≤ s.at_ → s.at_ + d + 1 = m.Borders.length → (0 ≤ s.at_ → 0 ≤ s.border ∧ s.border ≤ 9000) → MemoOk m mem →
    ∃ mem', F76 k s m.Borders m.Step m.Heights m.Sides m.Inks m.Like mem = some (resP (optOf m s), mem') ∧ MemoOk m mem' := by
  have hb1 := g.b1
  have hst0 := g.st0
  have hst1 := g.st1
  have hh1 := g.h1
  intro d
  induction d with
  | zero =>
    intro k s mem hk h0 hd hbd hm
    obtain ⟨k, rfl⟩ : ∃ m, k = m + 1 := ⟨k - 1, by omega⟩
    rw [F76, B76, w64_id (by omega) (by omega), if_pos (by simp; omega)]
    refine ⟨mem, ?_, hm⟩
    unfold optOf
    rw [List.drop_eq_nil_of_le (by omega), opt]
    rfl
  | succ d ih =>
    intro k s mem hk h0 hd hbd hm
    obtain ⟨k, rfl⟩ : ∃ m, k = m + 1 := ⟨k - 1, by omega⟩
    rw [F76, B76, w64_id (by omega) (by omega), if_neg (by simp; omega)]
    cases hg : mget eqk112 s mem with
    | some v =>
      rw [Option.isSome_some, if_pos rfl, Option.getD_some, hm s v hg]
      exact ⟨mem, rfl, hm⟩
    | none =>
      have hlt : (s.at_ + 1).toNat < m.Borders.length := by omega
      rw [Option.isSome_none, if_neg (by simp), Option.getD_none, w64_id (by omega) (by omega), idx_bang (by omega) (by omega), Option.bind_some]
      have hdrop : m.Borders.drop (s.at_ + 1).toNat = m.Borders[(s.at_ + 1).toNat]! :: m.Borders.drop (s.at_ + 2).toNat := by
        rw [List.drop_eq_getElem_cons hlt, getElem!_pos m.Borders _ hlt, show (s.at_ + 2).toNat = (s.at_ + 1).toNat + 1 from by omega]
      have hsub : ∀ t ∈ m.Borders.drop (s.at_ + 2).toNat, t ∈ m.Borders := fun t ht => List.mem_of_mem_drop ht
      have hmemb : m.Borders[(s.at_ + 1).toNat]! ∈ m.Borders := by rw [getElem!_pos m.Borders _ hlt]; exact List.getElem_mem _
      generalize hB : m.Borders[(s.at_ + 1).toNat]! = b at hdrop hmemb ⊢
      have hbb := g.bor b hmemb
      have hoptOf : optOf m s = optK (fun n => if early m.Step (prevOf s.at_ s.border) n then none else (opt m.Step m.Heights (m.Borders.drop (s.at_ + 2).toNat) (some n)).map fun r => (n :: r.1, r.2 + newN m.Heights (prevOf s.at_ s.border) n)) (b.Hi - b.Lo + 1).toNat b.Lo none := by
        unfold optOf
        rw [hdrop, opt]
      have key : ∀ (j n : Nat) (c : Int) (mem : List (S_colour_state × S_colour_rest)) (acc : Option (List Int × Int)) (many next : Int), 0 ≤ c → c + j = b.Hi - b.Lo + 1 → j < n → MemoOk m mem → accRel acc many next →
          ∃ mem' many' next', F76L1 (k + 1) (F76 k) s m.Borders m.Step m.Heights m.Sides m.Inks m.Like b n (c, mem, many, next) = some (.inr (mem', many', next')) ∧ MemoOk m mem' ∧
            accRel (optK (fun n => if early m.Step (prevOf s.at_ s.border) n then none else (opt m.Step m.Heights (m.Borders.drop (s.at_ + 2).toNat) (some n)).map fun r => (n :: r.1, r.2 + newN m.Heights (prevOf s.at_ s.border) n)) j (b.Lo + c) acc) many' next' := by
        intro j
        induction j with
        | zero =>
          intro n c mem acc many next hc0 hc hn hm ha
          obtain ⟨n, rfl⟩ : ∃ m, n = m + 1 := ⟨n - 1, by omega⟩
          rw [F76L1, w64_id (n := b.Hi - b.Lo) (by omega) (by omega), w64_id (by omega) (by omega), if_neg (by simp; omega)]
          exact ⟨mem, many, next, rfl, hm, ha⟩
        | succ j ihj =>
          intro n c mem acc many next hc0 hc hn hm ha
          obtain ⟨n, rfl⟩ : ∃ m, n = m + 1 := ⟨n - 1, by omega⟩
          rw [F76L1, w64_id (n := b.Hi - b.Lo) (by omega) (by omega), w64_id (n := b.Hi - b.Lo + 1) (by omega) (by omega), if_pos (by simp; omega)]
          dsimp only
          rw [w64_id (n := b.Lo + c) (by omega) (by omega), w64_id (n := c + 1) (by omega) (by omega), optK]
          have hearly : (cond (decide (s.at_ ≥ 0)) (decide (b.Lo + c < w64 (s.border + m.Step))) false) = early m.Step (prevOf s.at_ s.border) (b.Lo + c) := by
            unfold prevOf early
            by_cases h : s.at_ < 0
            · rw [if_pos h, decide_eq_false (by omega)]; rfl
            · have := hbd (by omega)
              rw [if_neg h, decide_eq_true (by omega), w64_id (by omega) (by omega)]; rfl
          rw [hearly, show b.Lo + c + 1 = b.Lo + (c + 1) from by omega]
          cases he : early m.Step (prevOf s.at_ s.border) (b.Lo + c) with
          | true =>
            rw [if_pos rfl, if_pos rfl]
            exact ihj n (c + 1) mem acc many next (by omega) (by omega) (by omega) hm ha
          | false =>
            rw [if_neg (by simp), if_neg (by simp), w64_id (n := s.at_ + 1) (by omega) (by omega)]
            obtain ⟨mem1, h1, hm1⟩ := ih k ⟨s.at_ + 1, b.Lo + c⟩ mem (by omega) (by dsimp only; omega) (by dsimp only; omega) (fun _ => by dsimp only; omega) hm
            have hopt : optOf m ⟨s.at_ + 1, b.Lo + c⟩ = opt m.Step m.Heights (m.Borders.drop (s.at_ + 2).toNat) (some (b.Lo + c)) := by
              unfold optOf prevOf
              dsimp only
              rw [if_neg (by omega), show s.at_ + 1 + 1 = s.at_ + 2 from by omega]
            rw [h1, Option.bind_some, hopt]
            have hneg := resP_neg g hsub (prev := some (b.Lo + c))
            cases ho : opt m.Step m.Heights (m.Borders.drop (s.at_ + 2).toNat) (some (b.Lo + c)) with
            | none =>
              rw [if_pos (by rw [decide_eq_true_eq]; simp [resP])]
              exact ihj n (c + 1) mem1 acc many next (by omega) (by omega) (by omega) hm1 ha
            | some x =>
              have hb40 := opt_bd g (by rw [List.length_drop]; omega) ho
              have hmany := resP_some ho
              rw [ho] at hneg hmany
              rw [if_neg (by rw [decide_eq_true_eq, hneg]; simp), hmany, e76L2 (w64_id (by dsimp only; omega) (by dsimp only; omega)) hh1 m.Heights [] (k + 1) 0 x.2 rfl rfl (by omega) (by omega) (by omega), Option.bind_some, outK_inr]
              have hp := acc_pick (acc := acc) (many := many) (next := next) (n := b.Lo + c) (c := x.2 + newN m.Heights (prevOf s.at_ s.border) (b.Lo + c)) (r := x.1) ha (by omega)
              rw [Option.map_some]
              by_cases hq : (cond (decide (next < 0)) true (decide (x.2 + newN m.Heights (prevOf s.at_ s.border) (b.Lo + c) < many))) = true
              · rw [if_pos hq] at hp ⊢
                rw [if_pos hq] at hp
                exact ihj n (c + 1) mem1 _ _ _ (by omega) (by omega) (by omega) hm1 hp
              · rw [if_neg hq] at hp ⊢
                rw [if_neg hq] at hp
                exact ihj n (c + 1) mem1 _ _ _ (by omega) (by omega) (by omega) hm1 hp
      obtain ⟨mem', many', next', h1, h2, h3⟩ := key (b.Hi - b.Lo + 1).toNat (k + 1) 0 mem none 0 (-1) (by omega) (by omega) (by omega) hm ⟨rfl, rfl⟩
      rw [Int.add_zero, ← hoptOf] at h3
      rw [h1, Option.bind_some, outK_inr, accRel_res h3]
      exact ⟨_, rfl, h2.set rfl⟩

theorem e35L1 {m : Mp} (g : GoodM m) {k : Nat} (hk : 60 ≤ k) : ∀ (d n : Nat) (mem : List (S_colour_state × S_colour_rest)) (at_ bd : Int) (acc r : List Int) (c : Int), -1 ≤ at_ → at_ + d + 1 = m.Borders.length → d < n → (0 ≤ at_ → 0 ≤ bd ∧ bd ≤ 9000) → MemoOk m mem →
    optOf m ⟨at_, bd⟩ = some (r, c) → acc.length + d ≤ 5 → ∃ mem' a' b', F35L1 k m n (at_ + 1, mem, at_, bd, acc) = some (.inr (mem', a', b', acc ++ r)) := by
  have hb1 := g.b1
  intro d
  induction d with
  | zero =>
    intro n mem at_ bd acc r c h0 hd hn hbd hm ho ha
    obtain ⟨n, rfl⟩ : ∃ m, n = m + 1 := ⟨n - 1, by omega⟩
    rw [F35L1, if_neg (by simp; omega)]
    have e : r = [] := by
      unfold optOf at ho
      rw [List.drop_eq_nil_of_le (by dsimp only; omega), opt] at ho
      simp only [Option.some.injEq, Prod.mk.injEq] at ho
      exact ho.1.symm
    exact ⟨mem, at_, bd, by rw [e, List.append_nil]⟩
  | succ d ih =>
    intro n mem at_ bd acc r c h0 hd hn hbd hm ho ha
    obtain ⟨n, rfl⟩ : ∃ m, n = m + 1 := ⟨n - 1, by omega⟩
    obtain ⟨mem1, h1, hm1⟩ := e76 g (d + 1) k ⟨at_, bd⟩ mem (by omega) h0 hd hbd hm
    have hlt : (at_ + 1).toNat < m.Borders.length := by omega
    have hdrop : m.Borders.drop (at_ + 1).toNat = m.Borders[(at_ + 1).toNat]! :: m.Borders.drop (at_ + 2).toNat := by
      rw [List.drop_eq_getElem_cons hlt, getElem!_pos m.Borders _ hlt, show (at_ + 2).toNat = (at_ + 1).toNat + 1 from by omega]
    have hmemb : m.Borders[(at_ + 1).toNat]! ∈ m.Borders := by rw [getElem!_pos m.Borders _ hlt]; exact List.getElem_mem _
    have hbb := g.bor _ hmemb
    have ho' := ho
    unfold optOf at ho'
    dsimp only at ho'
    rw [hdrop] at ho'
    have hL := (opt_some ho').1
    cases r with
    | nil => exact hL.elim
    | cons x r =>
      have hx := hL.1
      obtain ⟨c', h2⟩ := opt_tail ho'
      rw [F35L1, if_pos (by simp; omega)]
      dsimp only
      rw [h1, Option.bind_some, ho]
      change ∃ mem' a' b', (if decide (x < 0) = true then _ else _) = _
      rw [if_neg (by simp; omega), need_true (by show (acc.length + 1) * 8 ≤ 140737488355328 ∧ acc.length + 1 ≤ 9223372036854775807; omega), Option.bind_some, w64_id (n := at_ + 1 + 1) (by omega) (by omega), w64_id (n := at_ + 1) (by omega) (by omega)]
      obtain ⟨mem', a', b', h3⟩ := ih n mem1 (at_ + 1) x (acc ++ [x]) r c' (by omega) (by omega) (by omega) (fun _ => by omega) hm1
        (by unfold optOf prevOf; dsimp only; rw [if_neg (by omega), show at_ + 1 + 1 = at_ + 2 from by omega, h2]) (by simp; omega)
      exact ⟨mem', a', b', by rw [List.append_assoc] at h3; exact h3⟩

theorem e35 {k : Nat} (hk : 60 ≤ k) {m : Mp} : F35 k m = some (best m) := by
  unfold F35 best
  rw [e17 (by omega), Option.bind_some]
  by_cases h : (chk m).2.2 = 0
  · have g := chk_good.1 h
    have hb0 := g.b0
    have hb1 := g.b1
    rw [if_neg (by simpa using h), if_pos h]
    obtain ⟨mem1, h1, hm1⟩ := e76 g m.Borders.length k ⟨-1, 0⟩ [] (by omega) (by dsimp only; omega) (by dsimp only; omega) (fun h => by dsimp only at h; omega) (fun k v h => by cases h)
    have hopt : optOf m ⟨-1, 0⟩ = opt m.Step m.Heights m.Borders none := rfl
    rw [h1, Option.bind_some, hopt]
    cases ho : opt m.Step m.Heights m.Borders none with
    | none =>
      obtain ⟨n, rfl⟩ : ∃ n, k = n + 1 := ⟨k - 1, by omega⟩
      obtain ⟨mem2, h2, hm2⟩ := e76 g m.Borders.length (n + 1) ⟨-1, 0⟩ mem1 (by omega) (by dsimp only; omega) (by dsimp only; omega) (fun h => by dsimp only at h; omega) hm1
      rw [F35L1, if_pos (by simp; omega)]
      dsimp only
      rw [h2, Option.bind_some, hopt, ho]
      rfl
    | some x =>
      obtain ⟨mem', a', b', h2⟩ := e35L1 g hk m.Borders.length k mem1 (-1) 0 [] x.1 x.2 (by omega) (by omega) (by omega) (fun h => by omega) hm1 (hopt.trans ho) (by simp; omega)
      rw [show (-1 : Int) + 1 = 0 from rfl] at h2
      rw [h2, Option.bind_some, outK_inr, List.nil_append]
      have := resP_some ho
      rw [ho] at this
      rw [this]
  · rw [if_pos (by simpa using h), if_neg h]
end Go.Proofs.Ytpkhbbboedoldaa
