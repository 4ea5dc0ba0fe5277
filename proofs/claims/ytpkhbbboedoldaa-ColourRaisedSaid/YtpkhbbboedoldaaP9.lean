/- If all heights and borders are raised by the same number, all is the same, with legends raised, too. -/
import Derived.Test.YtpkhbbboedoldaaP8
import Derived.Test.YtpkhbbboedoldaaDZ
namespace Go.Proofs.Ytpkhbbboedoldaa
open Go Go.Sx
set_option linter.all false

theorem e40b {k : Nat} (hk : 20 ≤ k) {m : Mp} (g : GoodM m) {x : List Int} (hx : Tn x) : ∃ l, F40 k m x = some l ∧ l.length = m.Borders.length ∧ ∀ y ∈ l, 0 ≤ y ∧ y ≤ 9000 := by
  have hb1 := g.b1
  have hst0 := g.st0
  have hst1 := g.st1
  have key : ∀ (d n c : Nat) (acc : List Int), c + d = m.Borders.length → d < n → acc.length = c → (∀ y ∈ acc, 0 ≤ y ∧ y ≤ 9000) → ∃ l, F40L1 m x n ((c : Int), acc) = some (.inr l) ∧ l.length = m.Borders.length ∧ ∀ y ∈ l, 0 ≤ y ∧ y ≤ 9000 := by
    intro d
    induction d with
    | zero =>
      intro n c acc hc hn ha hb
      obtain ⟨n, rfl⟩ : ∃ m, n = m + 1 := ⟨n - 1, by omega⟩
      rw [F40L1, if_neg (by simp; omega)]
      exact ⟨acc, rfl, by omega, hb⟩
    | succ d ih =>
      intro n c acc hc hn ha hb
      obtain ⟨n, rfl⟩ : ∃ m, n = m + 1 := ⟨n - 1, by omega⟩
      have hcl : c < m.Borders.length := by omega
      have hbb := g.bor m.Borders[c]! (by rw [getElem!_pos m.Borders c hcl]; exact List.getElem_mem _)
      obtain ⟨t, ht, ht0, ht1⟩ := e44 hx (i := (c : Int)) (by omega)
      rw [F40L1, if_pos (by simp; omega)]
      dsimp only
      rw [idx_nat hcl, Option.bind_some, ht]
      have fin : ∀ v : Int, 0 ≤ v → v ≤ 9000 → ∃ l, ((need ((acc.length + ([v] : List Int).length) * 8 ≤ 140737488355328 ∧ acc.length + ([v] : List Int).length ≤ 9223372036854775807)).bind fun _ => F40L1 m x n ((w64 ((c : Int) + 1)), (acc ++ ([v] : List Int)))) = some (.inr l) ∧ l.length = m.Borders.length ∧ ∀ y ∈ l, 0 ≤ y ∧ y ≤ 9000 := by
        intro v hv0 hv1
        rw [need_true (by simp; omega), Option.bind_some, w64_id (by omega) (by omega)]
        obtain ⟨l, h1, h2⟩ := ih n (c + 1) (acc ++ [v]) (by omega) (by omega) (by simp; omega) (by
          intro y hy
          rcases List.mem_append.1 hy with h | h
          · exact hb y h
          · rw [List.mem_singleton] at h; omega)
        exact ⟨l, by rw [show ((c + 1 : Nat) : Int) = (c : Int) + 1 from by omega] at h1; exact h1, h2⟩
      have plain : ∃ l, ((some t).bind fun x13 => (F43 m.Borders[c]! x13).bind fun x14 => (need ((acc.length + ([x14] : List Int).length) * 8 ≤ 140737488355328 ∧ acc.length + ([x14] : List Int).length ≤ 9223372036854775807)).bind fun _ => F40L1 m x n ((w64 ((c : Int) + 1)), (acc ++ ([x14] : List Int)))) = some (.inr l) ∧ l.length = m.Borders.length ∧ ∀ y ∈ l, 0 ≤ y ∧ y ≤ 9000 := by
        obtain ⟨v, hv, hv0, hv1⟩ := e43 hbb.1 hbb.2.1 hbb.2.2.1 ht0
        rw [Option.bind_some, hv, Option.bind_some]
        exact fin v (by omega) (by omega)
      by_cases h0 : c = 0
      · rw [decide_eq_false (by omega), optG_false, Option.bind_some, cond_false, if_neg (by simp)]
        exact plain
      · rw [decide_eq_true (by omega), optG_true, w64_id (by omega) (by omega), idx_bang (by omega) (by omega), Option.bind_some, cond_true, Option.bind_some]
        have hq := hb acc[((c : Int) - 1).toNat]! (by rw [getElem!_pos acc _ (by omega)]; exact List.getElem_mem _)
        rw [w64_id (n := acc[((c : Int) - 1).toNat]! + m.Step) (by omega) (by omega)]
        by_cases hle : acc[((c : Int) - 1).toNat]! + m.Step ≤ m.Borders[c]!.Hi
        · rw [decide_eq_true hle, if_pos rfl]
          obtain ⟨v, hv, hv0, hv1⟩ := e43 (s := ⟨if acc[((c : Int) - 1).toNat]! + m.Step > m.Borders[c]!.Lo then acc[((c : Int) - 1).toNat]! + m.Step else m.Borders[c]!.Lo, m.Borders[c]!.Hi⟩) (n := t) (by dsimp only; split <;> omega) (by dsimp only; split <;> omega) hbb.2.2.1 ht0
          rw [Option.bind_some, hv, Option.bind_some]
          have : 0 ≤ v := by dsimp only at hv0; split at hv0 <;> omega
          dsimp only at hv1
          exact fin v (by omega) (by omega)
        · rw [decide_eq_false hle, if_neg (by simp)]
          exact plain
  unfold F40
  obtain ⟨l, h1, h2⟩ := key m.Borders.length k 0 [] (by omega) (by omega) rfl (by simp)
  rw [Int.natCast_zero] at h1
  rw [h1, Option.bind_some, outK_inr]
  exact ⟨l, rfl, h2⟩

def upS (n : Int) (s : Sp) : Sp := ⟨s.Lo + n, s.Hi + n⟩
def upM (n : Int) (m : Mp) : Mp := ⟨m.Borders.map (upS n), m.Step, m.Heights.map (upS n), m.Sides, m.Inks, m.Like⟩
def upL (n : Int) (l : List Int) : List Int := l.map fun x => x + n
theorem band_up (n : Int) : ∀ (l : List Int) (h : Int), band (upL n l) (h + n) = band l h := by
  intro l
  induction l with
  | nil => intro h; rfl
  | cons x xs ih =>
    intro h
    have e : upL n (x :: xs) = (x + n) :: upL n xs := rfl
    rw [e, band, band, ih]
    by_cases hx : x ≤ h
    · rw [if_pos hx, if_pos (by omega)]
    · rw [if_neg hx, if_neg (by omega)]
theorem alls_up (n : Int) (m : Mp) (l : List Int) : alls (upM n m) (upL n l) = alls m l := by
  unfold alls
  simp only [upM, List.map_map]
  refine List.map_congr_left fun s _ => ?_
  simp only [Function.comp, bandS, upS, band_up]
theorem metB_up (n : Int) (m : Mp) (l : List Int) (a b : Int) : metB (upM n m) (upL n l) a b = metB m l a b := by
  unfold metB
  rw [alls_up]; rfl
theorem len_up (n : Int) (l : List Int) : (upL n l).length = l.length := by simp [upL]
theorem metM_up (n : Int) (m : Mp) (l : List Int) : ∀ (d : Nat) (a : Int), metM (upM n m) (upL n l) d a = metM m l d a := by
  intro d
  induction d with
  | zero => intro a; rfl
  | succ d ih =>
    intro a
    rw [metM, metM, ih, len_up, show metB (upM n m) (upL n l) a = metB m l a from funext fun b => metB_up n m l a b]
theorem paintS_up (n : Int) (m : Mp) (l : List Int) : paintS (upM n m) (upL n l) = paintS m l := by
  unfold paintS
  have : fine (upM n m) (upL n l) = fine m l := by
    funext pre ink
    unfold fine
    rw [show (fun b : Nat => metB (upM n m) (upL n l) pre.length b) = (fun b : Nat => metB m l pre.length b) from funext fun b => metB_up n m l _ b]
    rfl
  rw [this, len_up]; rfl
theorem legE_up (n : Int) {step : Int} : ∀ (l : List Int) (bs : List Sp) (prev : Option Int) (i : Int), legE step (prev.map fun x => x + n) (upL n l) (bs.map (upS n)) i = legE step prev l bs i := by
  intro l
  induction l with
  | nil => intro bs prev i; cases bs <;> rfl
  | cons x xs ih =>
    intro bs prev i
    cases bs with
    | nil => rfl
    | cons b bs =>
      have e : upL n (x :: xs) = (x + n) :: upL n xs := rfl
      rw [e, List.map_cons, legE_cons, legE_cons]
      have h1 : okN (upS n b).Lo (upS n b).Hi (x + n) = okN b.Lo b.Hi x := by
        unfold okN upS
        rw [Bool.eq_iff_iff]
        simp only [Bool.and_eq_true, decide_eq_true_eq]
        omega
      have h2 : early step (prev.map fun x => x + n) (x + n) = early step prev x := by
        cases prev with
        | none => rfl
        | some q =>
          simp only [early, Option.map_some]
          rw [Bool.eq_iff_iff, decide_eq_true_eq, decide_eq_true_eq]; omega
      rw [h1, h2]
      have h3 := ih bs (some x) (i + 1)
      rw [Option.map_some] at h3
      rw [h3]
theorem chkLeg_up (n : Int) {m : Mp} (h : (chk m).2.2 = 0) (h2 : (chk (upM n m)).2.2 = 0) (l : List Int) : chkLeg (upM n m) (upL n l) = chkLeg m l := by
  unfold chkLeg
  rw [h, h2, len_up, show (upM n m).Borders.length = m.Borders.length from by simp [upM]]
  have := legE_up n (step := m.Step) l m.Borders none 0
  rw [Option.map_none] at this
  rw [show (upM n m).Step = m.Step from rfl, show (upM n m).Borders = m.Borders.map (upS n) from rfl, this]
theorem parts_up (n : Int) (s : Sp) (b : Int) : partsB (upS n s) (b + n) = partsB s b := by
  unfold partsB upS
  rw [Bool.eq_iff_iff]
  simp only [Bool.and_eq_true, decide_eq_true_eq]
  omega
theorem newN_up (n : Int) (hs : List Sp) (prev : Option Int) (k : Int) : newN (hs.map (upS n)) (prev.map fun x => x + n) (k + n) = newN hs prev k := by
  unfold newN
  rw [List.countP_map]
  congr 1
  refine List.countP_congr fun s _ => ?_
  cases prev with
  | none => simp only [Function.comp, newP, Option.map_none, parts_up]
  | some p => simp only [Function.comp, newP, Option.map_some, parts_up]
def upR (n : Int) (r : List Int × Int) : List Int × Int := (upL n r.1, r.2)
theorem pick_up (n : Int) (a x : Option (List Int × Int)) : pick (a.map (upR n)) (x.map (upR n)) = (pick a x).map (upR n) := by
  cases x with
  | none => rfl
  | some x =>
    cases a with
    | none => rfl
    | some a =>
      unfold pick
      simp only [Option.map_some, upR]
      by_cases h : x.2 < a.2
      · rw [if_pos h, if_pos h]; rfl
      · rw [if_neg h, if_neg h]; rfl
theorem optK_up (n : Int) {f f' : Int → Option (List Int × Int)} (hf : ∀ i, f' (i + n) = (f i).map (upR n)) : ∀ (d : Nat) (i : Int) (a : Option (List Int × Int)), optK f' d (i + n) (a.map (upR n)) = (optK f d i a).map (upR n) := by
  intro d
  induction d with
  | zero => intro i a; rfl
  | succ d ih =>
    intro i a
    rw [optK, optK, hf, pick_up, show i + n + 1 = i + 1 + n from by omega, ih]
theorem opt_up (n : Int) {step : Int} {hs : List Sp} : ∀ (bs : List Sp) (prev : Option Int), opt step (hs.map (upS n)) (bs.map (upS n)) (prev.map fun x => x + n) = (opt step hs bs prev).map (upR n) := by
  intro bs
  induction bs with
  | nil => intro prev; rfl
  | cons b bs ih =>
    intro prev
    rw [List.map_cons, opt, opt]
    have e1 : (upS n b).Hi - (upS n b).Lo + 1 = b.Hi - b.Lo + 1 := by simp only [upS]; omega
    rw [e1]
    refine optK_up n (f := fun k => if early step prev k then none else (opt step hs bs (some k)).map fun r => (k :: r.1, r.2 + newN hs prev k)) (fun i => ?_) _ b.Lo none
    have h2 : early step (prev.map fun x => x + n) (i + n) = early step prev i := by
      cases prev with
      | none => rfl
      | some q =>
        simp only [early, Option.map_some]
        rw [Bool.eq_iff_iff, decide_eq_true_eq, decide_eq_true_eq]; omega
    have h3 := ih (some i)
    rw [Option.map_some] at h3
    rw [h2, h3, newN_up]
    cases early step prev i with
    | true => rfl
    | false =>
      rw [if_neg (by simp), if_neg (by simp)]
      cases opt step hs bs (some i) <;> rfl
theorem best_up (n : Int) {m : Mp} (h : (chk m).2.2 = 0) (h2 : (chk (upM n m)).2.2 = 0) : best (upM n m) = (upL n (best m).1, (best m).2) := by
  unfold best
  rw [if_pos h, if_pos h2]
  have := opt_up n (step := m.Step) (hs := m.Heights) m.Borders none
  rw [Option.map_none] at this
  rw [show (upM n m).Step = m.Step from rfl, show (upM n m).Borders = m.Borders.map (upS n) from rfl, show (upM n m).Heights = m.Heights.map (upS n) from rfl, this]
  cases opt m.Step m.Heights m.Borders none <;> rfl
theorem best_bd {m : Mp} (g : GoodM m) : ∀ y ∈ (best m).1, 0 ≤ y ∧ y ≤ 9000 := by
  unfold best
  rw [if_pos (chk_good.2 g)]
  cases h1 : opt m.Step m.Heights m.Borders none with
  | none => intro y hy; cases hy
  | some x => exact goodL_bd g (goodL_leg.2 (opt_some h1).1)
theorem best_len2 {m : Mp} (g : GoodM m) : (best m).1.length ≤ 5 := by
  unfold best
  rw [if_pos (chk_good.2 g)]
  cases h1 : opt m.Step m.Heights m.Borders none with
  | none => simp
  | some x =>
    have h2 := (opt_some h1).1.len
    have h3 := g.b1
    dsimp only; omega

theorem law14 (m : Mp) (x : List Int) (by_ : Int) (hx : Tn x) (hu : 0 ≤ by_ ∧ by_ ≤ 65535) : F14 200 m x by_ = some true := by
  have i64 : IntKind.i64.wrap by_ = by_ := w64_id (by omega) (by omega)
  unfold F14
  rw [e39 (by omega), Option.bind_some]
  by_cases h : (chk m).2.2 = 0
  · have g := chk_good.1 h
    have hb1 := g.b1
    have hh1 := g.h1
    rw [show ((chk m).2.2 == 0) = true from by simpa using h, Bool.not_true, if_neg (by simp)]
    have q1 := map_loop (l := m.Borders) (L := F14L1 m by_) (f := upS by_)
      (fun n c acc hc => by rw [F14L1, if_neg (by simpa using hc)])
      (fun n c acc hc ha hm => by
        have hh := g.bor _ hm
        rw [F14L1, if_pos (by simpa using hc)]
        dsimp only
        rw [idx_nat hc, Option.bind_some, Option.bind_some, F47, Option.bind_some, need_true (by simp; omega), Option.bind_some, i64, w64_id (n := m.Borders[c]!.Lo + by_) (by omega) (by omega), w64_id (n := m.Borders[c]!.Hi + by_) (by omega) (by omega), w64_id (by omega) (by omega), show (c : Int) + 1 = ((c + 1 : Nat) : Int) from by omega]
        rfl) m.Borders.length 200 0 [] (by omega) (by omega) rfl
    have q2 := map_loop (l := m.Heights) (L := F14L2 m by_) (f := upS by_)
      (fun n c acc hc => by rw [F14L2, if_neg (by simpa using hc)])
      (fun n c acc hc ha hm => by
        have hh := g.hei _ hm
        rw [F14L2, if_pos (by simpa using hc)]
        dsimp only
        rw [idx_nat hc, Option.bind_some, Option.bind_some, F47, Option.bind_some, need_true (by simp; omega), Option.bind_some, i64, w64_id (n := m.Heights[c]!.Lo + by_) (by omega) (by omega), w64_id (n := m.Heights[c]!.Hi + by_) (by omega) (by omega), w64_id (by omega) (by omega), show (c : Int) + 1 = ((c + 1 : Nat) : Int) from by omega]
        rfl) m.Heights.length 200 0 [] (by omega) (by omega) rfl
    rw [List.drop_zero, List.nil_append, Int.natCast_zero] at q1 q2
    rw [q1, Option.bind_some, outK_inr, q2, Option.bind_some, outK_inr]
    change ((F39 200 (upM by_ m)).bind _) = _
    rw [e39 (by omega), Option.bind_some]
    by_cases h3 : (chk (upM by_ m)).2.2 = 0
    · have g2 := chk_good.1 h3
      rw [show ((chk (upM by_ m)).2.2 == 0) = true from by simpa using h3, Bool.not_true, if_neg (by simp)]
      obtain ⟨l, h1, h2, h2b⟩ := e40b (k := 200) (by omega) g hx
      have q3 := map_loop (l := l) (L := F14L3 by_ l) (f := fun y => y + by_)
        (fun n c acc hc => by rw [F14L3, if_neg (by simpa using hc)])
        (fun n c acc hc ha hm => by
          have hh := h2b _ hm
          rw [F14L3, if_pos (by simpa using hc)]
          dsimp only
          rw [idx_nat hc, Option.bind_some, need_true (by simp; omega), Option.bind_some, i64, w64_id (n := l[c]! + by_) (by omega) (by omega), w64_id (by omega) (by omega), show (c : Int) + 1 = ((c + 1 : Nat) : Int) from by omega]) l.length 200 0 [] (by omega) (by omega) rfl
      rw [List.drop_zero, List.nil_append, Int.natCast_zero] at q3
      rw [h1, Option.bind_some, q3, Option.bind_some, outK_inr]
      change ((F21 200 m l).bind fun x33 => (F21 200 (upM by_ m) (upL by_ l)).bind fun x34 => (F27 200 m l).bind fun x35 => (F27 200 (upM by_ m) (upL by_ l)).bind fun x36 => (F31 200 m l).bind fun x37 => (F31 200 (upM by_ m) (upL by_ l)).bind fun x38 => _) = _
      have c1 : mets (upM by_ m) (upL by_ l) = mets m l := by
        unfold mets
        rw [chkLeg_up by_ h h3, len_up, metM_up]
      have c2 : paints (upM by_ m) (upL by_ l) = paints m l := by
        unfold paints
        rw [chkLeg_up by_ h h3, paintS_up]
      rw [e21 (by omega), Option.bind_some, e21 (by omega), Option.bind_some, e27 (by omega), Option.bind_some, e27 (by omega), Option.bind_some, e31 (by omega), Option.bind_some, e31 (by omega), Option.bind_some, c1, c2, chkLeg_up by_ h h3, alls_up]
      have l1 : (if (chkLeg m l).2 = 0 then (alls m l, (0 : Int)) else ([], (chkLeg m l).2)).1.length ≤ 8 := by
        split
        · simp [alls]; omega
        · simp
      have l2 : (mets m l).1.length ≤ 30 := by
        unfold mets
        split
        · have := metM_len (m := m) (l := l) (by omega) (l.length + 1) 0
          dsimp only; omega
        · simp
      have l3 := paints_len m l
      rw [e23 (by omega) (by omega), Option.bind_some]
      rw [bne_self_eq_false, Bool.not_true, cond_false, Bool.not_false, optG_true, e29 (by omega) (by omega), Option.bind_some, bne_self_eq_false, Bool.not_true, cond_false, cond_false, Bool.not_false, optG_true, e26 (by omega) (by omega), Option.bind_some, bne_self_eq_false, Bool.not_true, cond_false, cond_false, if_neg (by simp)]
      change ((F35 200 m).bind fun x43 => (F35 200 (upM by_ m)).bind fun x44 => _) = _
      rw [e35 (by omega), Option.bind_some, e35 (by omega), Option.bind_some, best_up by_ h h3]
      dsimp only
      have hbl := best_len2 g
      have hbb := best_bd g
      rw [len_up, bne_self_eq_false, bne_self_eq_false, bne_self_eq_false, cond_false, cond_false, if_neg (by simp)]
      have q4 := all_loop (N := (best m).1.length) (L := F14L4 by_ (best m) (upL by_ (best m).1, (best m).2))
        (fun n c hc => by rw [F14L4, if_neg (by simpa using hc)])
        (fun n c hc => by
          have hy := hbb (best m).1[c]! (by rw [getElem!_pos _ c hc]; exact List.getElem_mem _)
          have e : (upL by_ (best m).1)[c]! = (best m).1[c]! + by_ := by
            rw [getElem!_pos _ c (by rw [len_up]; exact hc), getElem!_pos _ c hc]; simp [upL]
          rw [F14L4, if_pos (by simpa using hc)]
          dsimp only
          rw [idx_nat (by rw [len_up]; exact hc), Option.bind_some, idx_nat hc, Option.bind_some, e, i64, w64_id (n := (best m).1[c]! + by_) (by omega) (by omega), bne_self_eq_false, if_neg (by simp), w64_id (by omega) (by omega), show (c : Int) + 1 = ((c + 1 : Nat) : Int) from by omega]) (best m).1.length 200 0 (by omega) (by omega)
      rw [Int.natCast_zero] at q4
      rw [q4, Option.bind_some, outK_inr, awake200]; rfl
    · rw [show ((chk (upM by_ m)).2.2 == 0) = false from by simpa using h3, Bool.not_false, if_pos rfl, awake200]; rfl
  · rw [show ((chk m).2.2 == 0) = false from by simpa using h, Bool.not_false, if_pos rfl, awake200]; rfl
end Go.Proofs.Ytpkhbbboedoldaa
