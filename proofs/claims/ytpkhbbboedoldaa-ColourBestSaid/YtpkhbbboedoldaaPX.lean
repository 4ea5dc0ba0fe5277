/- What Best of the reference comes to, in plain words, and the law of Best. -/
import Derived.Test.YtpkhbbboedoldaaPW
import Derived.Test.YtpkhbbboedoldaaPA
import Derived.Test.YtpkhbbboedoldaaPK
import Derived.Test.YtpkhbbboedoldaaDF
namespace Go.Proofs.Ytpkhbbboedoldaa
open Go Go.Sx
set_option linter.all false

abbrev Rs := S_hachureref09qRest
theorem e93 (s : Sp) (n : Int) : F93 s n = some (partsB s n) := by
  unfold F93 partsB
  change some (cond (decide (s.Lo < n)) (decide (n ≤ s.Hi)) false) = _
  cases decide (s.Lo < n) <;> rfl
def prevR (before : Int) : Option Int := if before < 0 then none else some before
theorem e89 {k : Nat} (hk : 20 ≤ k) {m : Mp} (h8 : m.Heights.length ≤ 8) {before n : Int} : F89 k m before n = some (newN m.Heights (prevR before) n) := by
  have key : ∀ (suf pre : List Sp) (f : Nat) (a c : Int), m.Heights = pre ++ suf → c = pre.length → suf.length < f → 0 ≤ a → a ≤ pre.length → F89L1 m before n f (a, c) = some (.inr (a + newN suf (prevR before) n)) := by
    intro suf
    induction suf with
    | nil =>
      intro pre f a c hl hc hn h0 h1
      obtain ⟨f, rfl⟩ : ∃ m, f = m + 1 := ⟨f - 1, by simp at hn; omega⟩
      rw [F89L1, if_neg (by rw [hl]; simp; omega)]; simp [newN]
    | cons t suf ih =>
      intro pre f a c hl hc hn h0 h1
      simp only [List.length_cons] at hn
      obtain ⟨f, rfl⟩ : ∃ m, f = m + 1 := ⟨f - 1, by omega⟩
      have hlen : m.Heights.length = pre.length + (suf.length + 1) := by rw [hl]; simp
      have hix : idx m.Heights c = some t := by rw [hl]; exact idx_mid hc
      have hnew := newN_le suf (prevR before) n
      have e3 : newN (t :: suf) (prevR before) n = (if newP (prevR before) n t then 1 else 0) + newN suf (prevR before) n := by
        unfold newN
        rw [List.countP_cons]
        cases newP (prevR before) n t <;> simp <;> omega
      have e2 : (cond (partsB t n) (cond (decide (before < 0)) true (!partsB t before)) false) = newP (prevR before) n t := by
        unfold newP prevR
        by_cases hb : before < 0
        · rw [if_pos hb, decide_eq_true hb]; cases partsB t n <;> rfl
        · rw [if_neg hb, decide_eq_false hb]; cases partsB t n <;> rfl
      have e4 : F89L1 m before n (f + 1) (a, c) = if newP (prevR before) n t = true then F89L1 m before n f (w64 (a + 1), w64 (c + 1)) else F89L1 m before n f (a, w64 (c + 1)) := by
        rw [F89L1, if_pos (by simp; omega)]
        dsimp only
        rw [hix, Option.bind_some, e93, Option.bind_some, ← e2]
        cases partsB t n with
        | false => rfl
        | true =>
          cases decide (before < 0) with
          | true => rfl
          | false =>
            simp only [Bool.true_and, Bool.not_false, optG_true, Option.bind_some, e93]
      rw [e4, e3]
      cases newP (prevR before) n t with
      | true =>
        rw [if_pos rfl, if_pos rfl, w64_id (by omega) (by omega), w64_id (by omega) (by omega), ih (pre ++ [t]) f (a + 1) (c + 1) (by simp [hl]) (by simp; omega) (by omega) (by omega) (by simp; omega), Int.add_assoc]
      | false =>
        rw [if_neg (by simp), if_neg (by simp), w64_id (by omega) (by omega), ih (pre ++ [t]) f a (c + 1) (by simp [hl]) (by simp; omega) (by omega) (by omega) (by simp; omega), Int.zero_add]
  unfold F89
  rw [key m.Heights [] k 0 0 rfl rfl (by omega) (by omega) (by simp), Option.bind_some, outK_inr, Int.zero_add]

def resR : Option (List Int × Int) → Rs
  | none => ⟨false, [], 0⟩
  | some (l, c) => ⟨true, l, c⟩
/-- The rests of each number of a border. -/
def restsOf (m : Mp) (i : Nat) : List Rs := (List.range (m.Borders[i]!.Hi - m.Borders[i]!.Lo + 1).toNat).map fun k : Nat => resR (opt m.Step m.Heights (m.Borders.drop (i + 1)) (some (m.Borders[i]!.Lo + k)))

theorem drop_at {m : Mp} {i : Nat} (h : i < m.Borders.length) : m.Borders.drop i = m.Borders[i]! :: m.Borders.drop (i + 1) := by
  rw [List.drop_eq_getElem_cons h, getElem!_pos m.Borders _ h]
theorem bor_at {m : Mp} (g : GoodM m) {i : Nat} (h : i < m.Borders.length) : 0 ≤ m.Borders[i]!.Lo ∧ m.Borders[i]!.Lo ≤ m.Borders[i]!.Hi ∧ m.Borders[i]!.Hi ≤ 9000 ∧ m.Borders[i]!.Hi ≤ m.Borders[i]!.Lo + 20 :=
  g.bor _ (by rw [getElem!_pos m.Borders _ h]; exact List.getElem_mem _)
theorem opt_len {m : Mp} {bs : List Sp} {prev : Option Int} {x : List Int × Int} (h : opt m.Step m.Heights bs prev = some x) : x.1.length = bs.length := (opt_some h).1.len

theorem e77 {m : Mp} (g : GoodM m) {k : Nat} (hk : 60 ≤ k) {i : Nat} (hi : i ≤ m.Borders.length) {bd : Int} (hbd : -1 ≤ bd ∧ bd ≤ 9000) {next : List Rs} (hnext : i < m.Borders.length → next = restsOf m i) :
    F77v1 k m ((i : Int) - 1) bd next = some (resR (opt m.Step m.Heights (m.Borders.drop i) (prevR bd))) := by
  have hb1 := g.b1
  have hst0 := g.st0
  have hst1 := g.st1
  have hh1 := g.h1
  unfold F77v1
  rw [w64_id (by omega) (by omega)]
  by_cases he : i = m.Borders.length
  · rw [if_pos (by simp; omega), List.drop_eq_nil_of_le (by omega)]; rfl
  · rw [if_neg (by simp; omega)]
    have hlt : i < m.Borders.length := by omega
    have hbb := bor_at g hlt
    have hn := hnext hlt
    have hnl : next.length = (m.Borders[i]!.Hi - m.Borders[i]!.Lo + 1).toNat := by rw [hn]; simp [restsOf]
    have hat : ∀ c : Nat, c < next.length → next[c]! = resR (opt m.Step m.Heights (m.Borders.drop (i + 1)) (some (m.Borders[i]!.Lo + c))) := by
      intro c hc
      rw [getElem!_pos next c hc]
      subst hn
      simp [restsOf]
    have key : ∀ (j n c : Nat) (acc : Option (List Int × Int)), c + j = next.length → j < n →
        ∃ r, F77v1L1 k m ((i : Int) - 1) bd next n ((c : Int), (resR acc).Is, (resR acc).Legend, (resR acc).Many) = some (.inr (r.Is, r.Legend, r.Many)) ∧
          r = resR (optK (fun n => if early m.Step (prevR bd) n then none else (opt m.Step m.Heights (m.Borders.drop (i + 1)) (some n)).map fun r => (n :: r.1, r.2 + newN m.Heights (prevR bd) n)) j (m.Borders[i]!.Lo + c) acc) := by
      intro j
      induction j with
      | zero =>
        intro n c acc hc hn
        obtain ⟨n, rfl⟩ : ∃ m, n = m + 1 := ⟨n - 1, by omega⟩
        rw [F77v1L1, if_neg (by simp; omega)]
        exact ⟨resR acc, rfl, rfl⟩
      | succ j ih =>
        intro n c acc hc hn
        obtain ⟨n, rfl⟩ : ∃ m, n = m + 1 := ⟨n - 1, by omega⟩
        have hcl : c < next.length := by omega
        rw [F77v1L1, if_pos (by simp; omega)]
        dsimp only
        rw [w64_id (n := (i : Int) - 1 + 1) (by omega) (by omega), show (i : Int) - 1 + 1 = (i : Int) from by omega, idx_nat hlt, Option.bind_some, idx_nat hcl, Option.bind_some, hat c hcl, w64_id (n := m.Borders[i]!.Lo + (c : Int)) (by omega) (by omega), w64_id (n := (c : Int) + 1) (by omega) (by omega), optK]
        have hearly : (cond (decide (bd ≥ 0)) (decide (m.Borders[i]!.Lo + (c : Int) < w64 (bd + m.Step))) false) = early m.Step (prevR bd) (m.Borders[i]!.Lo + c) := by
          unfold prevR early
          by_cases h : bd < 0
          · rw [if_pos h, decide_eq_false (by omega)]; rfl
          · rw [if_neg h, decide_eq_true (by omega), w64_id (by omega) (by omega)]; rfl
        rw [hearly, show m.Borders[i]!.Lo + (c : Int) + 1 = m.Borders[i]!.Lo + ((c + 1 : Nat) : Int) from by omega, show (c : Int) + 1 = ((c + 1 : Nat) : Int) from by omega]
        cases ho : opt m.Step m.Heights (m.Borders.drop (i + 1)) (some (m.Borders[i]!.Lo + c)) with
        | none =>
          rw [if_pos (show (cond (!(resR none).Is) true (early m.Step (prevR bd) (m.Borders[i]!.Lo + (c : Int)))) = true from rfl)]
          obtain ⟨r, h1, h2⟩ := ih n (c + 1) acc (by omega) (by omega)
          refine ⟨r, h1, h2.trans ?_⟩
          cases early m.Step (prevR bd) (m.Borders[i]!.Lo + c) <;> rfl
        | some x =>
          cases hea : early m.Step (prevR bd) (m.Borders[i]!.Lo + c) with
          | true =>
            rw [if_pos (show (cond (!(resR (some x)).Is) true true) = true from rfl)]
            obtain ⟨r, h1, h2⟩ := ih n (c + 1) acc (by omega) (by omega)
            exact ⟨r, h1, h2⟩
          | false =>
            have hb40 := opt_bd g (by rw [List.length_drop]; omega) ho
            have hlen := opt_len ho
            rw [List.length_drop] at hlen
            have hnew := newN_le m.Heights (prevR bd) (m.Borders[i]!.Lo + c)
            rw [if_neg (show ¬ (cond (!(resR (some x)).Is) true false) = true by simp [resR]), Option.bind_some, e89 (by omega) hh1, Option.bind_some, if_neg (show ¬ (false = true) by simp), Option.map_some]
            change ∃ r, (if (cond (!(resR acc).Is) true (decide (w64 (x.2 + newN m.Heights (prevR bd) (m.Borders[i]!.Lo + c)) < (resR acc).Many))) = true then ((need (([m.Borders[i]!.Lo + (c : Int)].length + x.1.length) * 8 ≤ 140737488355328 ∧ [m.Borders[i]!.Lo + (c : Int)].length + x.1.length ≤ 9223372036854775807)).bind fun _ =>
              F77v1L1 k m ((i : Int) - 1) bd next n (((c + 1 : Nat) : Int), true, [m.Borders[i]!.Lo + (c : Int)] ++ x.1, w64 (x.2 + newN m.Heights (prevR bd) (m.Borders[i]!.Lo + c)))) else F77v1L1 k m ((i : Int) - 1) bd next n (((c + 1 : Nat) : Int), (resR acc).Is, (resR acc).Legend, (resR acc).Many)) = _ ∧ _
            rw [w64_id (n := x.2 + newN m.Heights (prevR bd) (m.Borders[i]!.Lo + c)) (by omega) (by omega), need_true (by simp; omega), Option.bind_some]
            have hpick : (if (cond (!(resR acc).Is) true (decide (x.2 + newN m.Heights (prevR bd) (m.Borders[i]!.Lo + c) < (resR acc).Many))) = true then some ((m.Borders[i]!.Lo + (c : Int)) :: x.1, x.2 + newN m.Heights (prevR bd) (m.Borders[i]!.Lo + c)) else acc) =
                pick acc (some ((m.Borders[i]!.Lo + (c : Int)) :: x.1, x.2 + newN m.Heights (prevR bd) (m.Borders[i]!.Lo + c))) := by
              cases acc with
              | none => rfl
              | some a =>
                unfold pick
                dsimp only
                by_cases hlt : x.2 + newN m.Heights (prevR bd) (m.Borders[i]!.Lo + c) < a.2
                · rw [if_pos hlt, if_pos (by simpa [resR] using hlt)]
                · rw [if_neg hlt, if_neg (by simpa [resR] using hlt)]
            rw [← hpick]
            by_cases hq : (cond (!(resR acc).Is) true (decide (x.2 + newN m.Heights (prevR bd) (m.Borders[i]!.Lo + c) < (resR acc).Many))) = true
            · rw [if_pos hq, if_pos hq]
              exact ih n (c + 1) (some ((m.Borders[i]!.Lo + (c : Int)) :: x.1, x.2 + newN m.Heights (prevR bd) (m.Borders[i]!.Lo + c))) (by omega) (by omega)
            · rw [if_neg hq, if_neg hq]
              exact ih n (c + 1) acc (by omega) (by omega)
    obtain ⟨r, h1, h2⟩ := key next.length k 0 none (by omega) (by omega)
    rw [Int.natCast_zero] at h1
    change F77v1L1 k m ((i : Int) - 1) bd next k (0, false, [], 0) = _ at h1
    rw [h1, Option.bind_some, outK_inr, h2, drop_at hlt, opt, hnl, Int.natCast_zero, Int.add_zero]

theorem e36L2 {m : Mp} (g : GoodM m) {k : Nat} (hk : 60 ≤ k) {i : Nat} (hi : i < m.Borders.length) {next : List Rs} (hnext : i + 1 < m.Borders.length → next = restsOf m (i + 1)) :
    F36L2 k m (next, (i : Int)) k (m.Borders[i]!.Lo, []) = some (.inr (restsOf m i)) := by
  have hb1 := g.b1
  have hbb := bor_at g hi
  have key : ∀ (j n c : Nat), (c : Int) + j = m.Borders[i]!.Hi - m.Borders[i]!.Lo + 1 → j < n → F36L2 k m (next, (i : Int)) n (m.Borders[i]!.Lo + c, (List.range c).map fun k : Nat => resR (opt m.Step m.Heights (m.Borders.drop (i + 1)) (some (m.Borders[i]!.Lo + k)))) =
      some (.inr (restsOf m i)) := by
    intro j
    induction j with
    | zero =>
      intro n c hc hn
      obtain ⟨n, rfl⟩ : ∃ m, n = m + 1 := ⟨n - 1, by omega⟩
      rw [F36L2]
      dsimp only
      rw [idx_nat hi, Option.bind_some, if_neg (by rw [decide_eq_true_eq]; omega)]
      have e : (m.Borders[i]!.Hi - m.Borders[i]!.Lo + 1).toNat = c := by omega
      rw [restsOf, e]
    | succ j ih =>
      intro n c hc hn
      obtain ⟨n, rfl⟩ : ∃ m, n = m + 1 := ⟨n - 1, by omega⟩
      have h77 := e77 g hk (i := i + 1) (by omega) (bd := m.Borders[i]!.Lo + c) (by omega) hnext
      rw [show ((i + 1 : Nat) : Int) - 1 = (i : Int) from by omega] at h77
      have hpr : prevR (m.Borders[i]!.Lo + c) = some (m.Borders[i]!.Lo + c) := if_neg (by omega)
      rw [hpr] at h77
      rw [F36L2]
      dsimp only
      rw [idx_nat hi, Option.bind_some, if_pos (by rw [decide_eq_true_eq]; omega), h77, Option.bind_some, need_true (by simp; omega), Option.bind_some, w64_id (by omega) (by omega)]
      have := ih n (c + 1) (by omega) (by omega)
      rw [List.range_succ, List.map_append] at this
      rw [show m.Borders[i]!.Lo + (c : Int) + 1 = m.Borders[i]!.Lo + ((c + 1 : Nat) : Int) from by omega]
      exact this
  have := key (m.Borders[i]!.Hi - m.Borders[i]!.Lo + 1).toNat k 0 (by omega) (by omega)
  rw [Int.natCast_zero, Int.add_zero] at this
  exact this

theorem e36L1 {m : Mp} (g : GoodM m) {k : Nat} (hk : 60 ≤ k) : ∀ (i n : Nat) (next : List Rs), i ≤ m.Borders.length → i < n → (i < m.Borders.length → next = restsOf m i) →
    F36L1 k m n (next, (i : Int) - 1) = some (.inr (if i = 0 then next else restsOf m 0)) := by
  have hb1 := g.b1
  intro i
  induction i with
  | zero =>
    intro n next hi hn hne
    obtain ⟨n, rfl⟩ : ∃ m, n = m + 1 := ⟨n - 1, by omega⟩
    rw [F36L1, if_neg (by simp)]; rfl
  | succ i ih =>
    intro n next hi hn hne
    obtain ⟨n, rfl⟩ : ∃ m, n = m + 1 := ⟨n - 1, by omega⟩
    rw [show ((i + 1 : Nat) : Int) - 1 = (i : Int) from by omega, F36L1, if_pos (by simp)]
    dsimp only
    rw [idx_nat (by omega), Option.bind_some, e36L2 g hk (by omega) hne, Option.bind_some, outK_inr, w64_id (by omega) (by omega), ih n (restsOf m i) (by omega) (by omega) (fun _ => rfl)]
    by_cases h : i = 0
    · subst h; rfl
    · rw [if_neg h, if_neg (show ¬ i + 1 = 0 by omega)]

theorem e36 {k : Nat} (hk : 60 ≤ k) {m : Mp} : F36 k m = some (best m) := by
  unfold F36 best
  rw [e18 (by omega), Option.bind_some]
  by_cases h : (chk m).2.2 = 0
  · have g := chk_good.1 h
    have hb0 := g.b0
    have hb1 := g.b1
    rw [if_neg (by simpa using h), if_pos h, w64_id (by omega) (by omega), e36L1 g hk m.Borders.length k [] (by omega) (by omega) (fun h => by omega), Option.bind_some, outK_inr, if_neg (by omega)]
    have h77 := e77 g hk (i := 0) (by omega) (bd := -1) (by omega) (next := restsOf m 0) (fun _ => rfl)
    rw [Int.natCast_zero, show (0 : Int) - 1 = -1 from rfl] at h77
    rw [h77, Option.bind_some, List.drop_zero]
    have hpr : prevR (-1) = none := rfl
    rw [hpr]
    cases opt m.Step m.Heights m.Borders none <;> rfl
  · rw [if_pos (by simpa using h), if_neg h]

theorem best_len (m : Mp) : (best m).1.length ≤ 5 := by
  unfold best
  by_cases h : (chk m).2.2 = 0
  · have g := chk_good.1 h
    have hb1 := g.b1
    rw [if_pos h]
    cases ho : opt m.Step m.Heights m.Borders none with
    | none => simp
    | some x =>
      have := opt_len ho
      dsimp only; omega
  · rw [if_neg h]; simp
theorem law5 (m : Mp) : F5 200 m = some true := by
  have h1 := best_len m
  unfold F5
  rw [e35 (by omega), Option.bind_some, e36 (by omega), Option.bind_some, e26 (by omega) (by omega), Option.bind_some]
  simp only [beq_self_eq_true, cond_true, optG_true]
  rw [awake200]
  rfl
end Go.Proofs.Ytpkhbbboedoldaa
