/- If the heights of points are known more narrowly, no point has more bands, no further bands meet, and Paint needs no more inks; wider borders leave no more points unsure. -/
import Derived.Test.YtpkhbbboedoldaaP5
import Derived.Test.YtpkhbbboedoldaaPY
import Derived.Test.YtpkhbbboedoldaaPA
import Derived.Test.YtpkhbbboedoldaaP1
import Derived.Test.YtpkhbbboedoldaaPR
import Derived.Test.YtpkhbbboedoldaaPO
import Derived.Test.YtpkhbbboedoldaaDY
namespace Go.Proofs.Ytpkhbbboedoldaa
open Go Go.Sx
set_option linter.all false

theorem map_loop {α β ρ : Type} [Inhabited α] {l : List α} {L : Nat → (Int × List β) → Option (ρ ⊕ List β)} {f : α → β} (h0 : ∀ n (c : Nat) acc, ¬ c < l.length → L (n + 1) ((c : Int), acc) = some (.inr acc))
    (h1 : ∀ n (c : Nat) acc, c < l.length → acc.length = c → l[c]! ∈ l → L (n + 1) ((c : Int), acc) = L n (((c + 1 : Nat) : Int), acc ++ [f l[c]!])) : ∀ (d n c : Nat) (acc : List β), c + d = l.length → d < n → acc.length = c →
    L n ((c : Int), acc) = some (.inr (acc ++ (l.drop c).map f)) := by
  intro d
  induction d with
  | zero =>
    intro n c acc hc hn ha
    obtain ⟨n, rfl⟩ : ∃ m, n = m + 1 := ⟨n - 1, by omega⟩
    rw [h0 n c acc (by omega), List.drop_eq_nil_of_le (by omega)]; simp
  | succ d ih =>
    intro n c acc hc hn ha
    obtain ⟨n, rfl⟩ : ∃ m, n = m + 1 := ⟨n - 1, by omega⟩
    have hcl : c < l.length := by omega
    rw [h1 n c acc hcl ha (by rw [getElem!_pos l c hcl]; exact List.getElem_mem _), ih n (c + 1) _ (by omega) (by omega) (by simp; omega), List.drop_eq_getElem_cons hcl, List.map_cons, ← getElem!_pos l c hcl]
    simp
theorem all_loop {ρ : Type} {N : Nat} {L : Nat → Int → Option (ρ ⊕ Unit)} (h0 : ∀ n (c : Nat), ¬ c < N → L (n + 1) (c : Int) = some (.inr ())) (h1 : ∀ n (c : Nat), c < N → L (n + 1) (c : Int) = L n ((c + 1 : Nat) : Int)) :
    ∀ (d n c : Nat), c + d = N → d < n → L n (c : Int) = some (.inr ()) := by
  intro d
  induction d with
  | zero =>
    intro n c hc hn
    obtain ⟨n, rfl⟩ : ∃ m, n = m + 1 := ⟨n - 1, by omega⟩
    rw [h0 n c (by omega)]
  | succ d ih =>
    intro n c hc hn
    obtain ⟨n, rfl⟩ : ∃ m, n = m + 1 := ⟨n - 1, by omega⟩
    rw [h1 n c (by omega), ih n (c + 1) (by omega) (by omega)]

def fineH (a b : Int) (s : Sp) : Sp := ⟨if s.Lo + a < s.Hi then s.Lo + a else s.Hi, if s.Hi - b > (if s.Lo + a < s.Hi then s.Lo + a else s.Hi) then s.Hi - b else (if s.Lo + a < s.Hi then s.Lo + a else s.Hi)⟩
def wideB (c : Int) (s : Sp) : Sp := ⟨if s.Lo - (if c < 20 - (s.Hi - s.Lo) then c else 20 - (s.Hi - s.Lo)) > 0 then s.Lo - (if c < 20 - (s.Hi - s.Lo) then c else 20 - (s.Hi - s.Lo)) else 0, s.Hi⟩
def fineM (m : Mp) (a b : Int) : Mp := ⟨m.Borders, m.Step, m.Heights.map (fineH a b), m.Sides, m.Inks, m.Like⟩
def wideM (m : Mp) (c d : Int) : Mp := ⟨m.Borders.map (wideB c), if m.Step - d > 1 then m.Step - d else 1, m.Heights, m.Sides, m.Inks, m.Like⟩
theorem fineH_in {a b : Int} (ha : 0 ≤ a) (hb : 0 ≤ b) {s : Sp} (hs : s.Lo ≤ s.Hi) : s.Lo ≤ (fineH a b s).Lo ∧ (fineH a b s).Lo ≤ (fineH a b s).Hi ∧ (fineH a b s).Hi ≤ s.Hi := by
  unfold fineH
  dsimp only
  split <;> split <;> omega
theorem wideB_in {c : Int} (hc : 0 ≤ c) {s : Sp} (h : 0 ≤ s.Lo ∧ s.Lo ≤ s.Hi ∧ s.Hi ≤ 9000 ∧ s.Hi ≤ s.Lo + 20) : (0 ≤ (wideB c s).Lo ∧ (wideB c s).Lo ≤ (wideB c s).Hi ∧ (wideB c s).Hi ≤ 9000 ∧ (wideB c s).Hi ≤ (wideB c s).Lo + 20) ∧ (wideB c s).Lo ≤ s.Lo ∧ (wideB c s).Hi = s.Hi := by
  unfold wideB
  dsimp only
  split <;> split <;> omega
theorem good_fine {m : Mp} (g : GoodM m) {a b : Int} (ha : 0 ≤ a) (hb : 0 ≤ b) : GoodM (fineM m a b) := by
  refine ⟨g.b0, g.b1, by simp [fineM]; exact g.h0, by simp [fineM]; exact g.h1, g.s1, g.l1, g.st0, g.st1, g.i0, g.i1, g.bor, ?_, ?_, g.lik⟩
  · intro s hs
    simp only [fineM, List.mem_map] at hs
    obtain ⟨t, ht, rfl⟩ := hs
    have h1 := g.hei t ht
    have h2 := fineH_in ha hb h1.2.1
    omega
  · intro p hp
    have := g.sid p hp
    simpa [fineM] using this
theorem good_wide {m : Mp} (g : GoodM m) {c d : Int} (hc : 0 ≤ c) (hd : 0 ≤ d) : GoodM (wideM m c d) := by
  have hs0 := g.st0
  have hs1 := g.st1
  refine ⟨by simp [wideM]; exact g.b0, by simp [wideM]; exact g.b1, g.h0, g.h1, g.s1, g.l1, ?_, ?_, g.i0, g.i1, ?_, g.hei, g.sid, g.lik⟩
  · simp only [wideM]; split <;> omega
  · simp only [wideM]; split <;> omega
  · intro s hs
    simp only [wideM, List.mem_map] at hs
    obtain ⟨t, ht, rfl⟩ := hs
    exact (wideB_in hc (g.bor t ht)).1
theorem goodL_wide {m : Mp} (g : GoodM m) {c d : Int} (hc : 0 ≤ c) (hd : 0 ≤ d) {l : List Int} (gl : GoodL m l) : GoodL (wideM m c d) l := by
  have hl := gl.len
  refine ⟨by simp [wideM, hl], fun i hi => ?_, fun i hi => ?_⟩
  · have h1 := gl.inb i hi
    have hb := g.bor m.Borders[i]! (by rw [getElem!_pos m.Borders i (by omega)]; exact List.getElem_mem _)
    have h2 := wideB_in hc hb
    have e : (wideM m c d).Borders[i]! = wideB c m.Borders[i]! := by
      rw [getElem!_pos _ i (by simp [wideM]; omega), getElem!_pos m.Borders i (by omega)]; simp [wideM]
    rw [e]; omega
  · have h1 := gl.gap i hi
    have hs0 := g.st0
    simp only [wideM]; split <;> omega
theorem cost_fine {m : Mp} (g : GoodM m) {a b : Int} (ha : 0 ≤ a) (hb : 0 ≤ b) {l : List Int} (gl : GoodL m l) : cost (fineM m a b).Heights none l ≤ cost m.Heights none l := by
  have hs := (goodL_leg.1 gl).srt g.st0
  rw [cost_count _ none hs, cost_count _ none hs]
  simp only [fineM]
  rw [List.countP_map]
  refine Int.ofNat_le.2 (List.countP_mono_left fun s hs h => ?_)
  have h1 := fineH_in ha hb (g.hei s hs).2.1
  simp only [Function.comp, preP, Bool.not_false, Bool.and_true, List.any_eq_true] at h ⊢
  obtain ⟨y, hy, h2⟩ := h
  refine ⟨y, hy, ?_⟩
  unfold partsB at h2 ⊢
  rw [Bool.and_eq_true, decide_eq_true_eq, decide_eq_true_eq] at h2 ⊢
  omega
/-- Best leaves no more points unsure. -/
theorem best_le {m m' : Mp} (g : GoodM m) (g' : GoodM m') (h : ∀ l, GoodL m l → GoodL m' l ∧ cost m'.Heights none l ≤ cost m.Heights none l) (h0 : (best m).2.2 = 0) : (best m').2.2 = 0 ∧ (best m').2.1 ≤ (best m).2.1 := by
  unfold best at h0 ⊢
  rw [if_pos (chk_good.2 g)] at h0 ⊢
  rw [if_pos (chk_good.2 g')]
  cases h1 : opt m.Step m.Heights m.Borders none with
  | none => rw [h1] at h0; cases h0
  | some x =>
    obtain ⟨h2, h3⟩ := opt_some h1
    obtain ⟨h4, h5⟩ := h x.1 (goodL_leg.2 h2)
    obtain ⟨y, h6, h7⟩ := opt_min (hs := m'.Heights) (goodL_leg.1 h4)
    rw [h6]
    exact ⟨rfl, by dsimp only; omega⟩

theorem alls_fine {m : Mp} (g : GoodM m) {a b : Int} (ha : 0 ≤ a) (hb : 0 ≤ b) {l : List Int} {i : Nat} (hi : i < m.Heights.length) : (alls m l)[i]!.Lo ≤ (alls (fineM m a b) l)[i]!.Lo ∧ (alls (fineM m a b) l)[i]!.Hi ≤ (alls m l)[i]!.Hi := by
  have h1 := fineH_in ha hb (hei_at2 g hi).2.1
  have e : (fineM m a b).Heights[i]! = fineH a b m.Heights[i]! := by
    rw [getElem!_pos _ i (by simp [fineM]; omega), getElem!_pos m.Heights i hi]; simp [fineM]
  rw [alls_at2 hi, alls_at2 (m := fineM m a b) (by simp [fineM]; omega), e]
  dsimp only
  have q1 := band_mono l h1.1
  have q2 := band_mono l h1.2.2
  omega
theorem metB_fine {m : Mp} (g : GoodM m) {a b : Int} (ha : 0 ≤ a) (hb : 0 ≤ b) {l : List Int} {p q : Int} (h : metB (fineM m a b) l p q = true) : metB m l p q = true := by
  unfold metB at h ⊢
  obtain ⟨s, hs, h2⟩ := List.any_eq_true.1 h
  refine List.any_eq_true.2 ⟨s, hs, ?_⟩
  have hsid := g.sid s hs
  have hA := alls_fine g ha hb (l := l) (i := s.A.toNat) (by omega)
  have hB := alls_fine g ha hb (l := l) (i := s.B.toNat) (by omega)
  unfold besideB okN at h2 ⊢
  simp only [Bool.or_eq_true, Bool.and_eq_true, decide_eq_true_eq] at h2 ⊢
  omega
theorem paint_fine {m : Mp} (g : GoodM m) {a b : Int} (ha : 0 ≤ a) (hb : 0 ≤ b) {l : List Int} (h : paintS m l ≠ []) : paintS (fineM m a b) l ≠ [] ∧ cnt (paintS (fineM m a b) l) ≤ cnt (paintS m l) := by
  obtain ⟨h1, h2, h3⟩ := (paintS_sound m l).resolve_left h
  refine paintS_least h3 ?_ h2
  rw [pnt_iff] at h1 ⊢
  intro p q hpq hq hm hl
  exact h1 p q hpq hq (metB_fine g ha hb hm) hl

theorem e13L5 {ps rs : List Pr} {e f : Int} {j : Nat} (hj : j < rs.length) (h100 : ps.length ≤ 100) : ∀ (suf pre : List Pr) (n : Nat) (c : Int) (acc : Bool), ps = pre ++ suf → c = pre.length → suf.length < n →
    F13L5 (ps, e) (rs, f) (j : Int) n (acc, c) = some (.inr (acc || suf.any fun p => (p.A == rs[j]!.A) && (p.B == rs[j]!.B))) := by
  intro suf
  induction suf with
  | nil =>
    intro pre n c acc hl hc hn
    obtain ⟨n, rfl⟩ : ∃ m, n = m + 1 := ⟨n - 1, by simp at hn; omega⟩
    rw [F13L5, if_neg (by dsimp only; rw [hl]; simp; omega)]; simp
  | cons s suf ih =>
    intro pre n c acc hl hc hn
    simp only [List.length_cons] at hn
    obtain ⟨n, rfl⟩ : ∃ m, n = m + 1 := ⟨n - 1, by omega⟩
    have hlen : ps.length = pre.length + (suf.length + 1) := by rw [hl]; simp
    have hix : idx ps c = some s := by rw [hl]; exact idx_mid hc
    rw [F13L5, if_pos (by simp; omega)]
    dsimp only
    rw [hix, w64_id (by omega) (by omega), idx_nat hj]
    cases acc with
    | true =>
      simp only [Bool.not_true, optG_false, Option.bind_some, cond_true]
      rw [ih (pre ++ [s]) n (c + 1) true (by simp [hl]) (by simp; omega) (by omega)]; simp
    | false =>
      simp only [Bool.not_false, optG_true, Option.bind_some, cond_false]
      rw [ih (pre ++ [s]) n (c + 1) _ (by simp [hl]) (by simp; omega) (by omega), List.any_cons, Bool.false_or]

theorem law13 (m : Mp) (x : List Int) (by_ : S__4quint8) (hx : Tn x) (u0 : 0 ≤ by_.e0 ∧ by_.e0 ≤ 255) (u1 : 0 ≤ by_.e1 ∧ by_.e1 ≤ 255) (u2 : 0 ≤ by_.e2 ∧ by_.e2 ≤ 255) (u3 : 0 ≤ by_.e3 ∧ by_.e3 ≤ 255) : F13 200 m x by_ = some true := by
  have i64 : ∀ n : Int, 0 ≤ n ∧ n ≤ 255 → IntKind.i64.wrap n = n := fun n h => w64_id (by omega) (by omega)
  unfold F13
  rw [e39 (by omega), Option.bind_some]
  by_cases h : (chk m).2.2 = 0
  · have g := chk_good.1 h
    have hb1 := g.b1
    have hh1 := g.h1
    have hst0 := g.st0
    have hst1 := g.st1
    rw [show ((chk m).2.2 == 0) = true from by simpa using h, Bool.not_true, if_neg (by simp)]
    obtain ⟨l, h1, h2⟩ := e40 (k := 200) (by omega) g hx
    have hmod := tmod_room u2.1 (show (0 : Int) < 6 by omega)
    have q1 := map_loop (l := m.Heights) (L := F13L1 m by_) (f := fineH by_.e0 by_.e1)
      (fun n c acc hc => by rw [F13L1, if_neg (by simpa using hc)])
      (fun n c acc hc ha hm => by
        have hh := hei_at2 g hc
        rw [F13L1, if_pos (by simpa using hc)]
        dsimp only
        rw [idx_nat hc, Option.bind_some, need_true (by simp; omega), Option.bind_some, i64 _ u0, i64 _ u1, w64_id (n := m.Heights[c]!.Lo + by_.e0) (by omega) (by omega), w64_id (n := m.Heights[c]!.Hi - by_.e1) (by omega) (by omega), w64_id (by omega) (by omega), show (c : Int) + 1 = ((c + 1 : Nat) : Int) from by omega]
        rfl) m.Heights.length 200 0 [] (by omega) (by omega) rfl
    have q2 := map_loop (l := m.Borders) (L := F13L2 m by_) (f := wideB (by_.e2.tmod 6))
      (fun n c acc hc => by rw [F13L2, if_neg (by simpa using hc)])
      (fun n c acc hc ha hm => by
        have hh := g.bor _ hm
        have hw : w64 (m.Borders[c]!.Lo - (if by_.e2.tmod 6 < 20 - (m.Borders[c]!.Hi - m.Borders[c]!.Lo) then by_.e2.tmod 6 else 20 - (m.Borders[c]!.Hi - m.Borders[c]!.Lo))) = m.Borders[c]!.Lo - (if by_.e2.tmod 6 < 20 - (m.Borders[c]!.Hi - m.Borders[c]!.Lo) then by_.e2.tmod 6 else 20 - (m.Borders[c]!.Hi - m.Borders[c]!.Lo)) := by
          split <;> exact w64_id (by omega) (by omega)
        rw [F13L2, if_pos (by simpa using hc)]
        dsimp only
        rw [idx_nat hc, Option.bind_some, need_true (by simp; omega), Option.bind_some, i64 _ u2, w64_id (n := m.Borders[c]!.Hi - m.Borders[c]!.Lo) (by omega) (by omega), w64_id (n := 20 - (m.Borders[c]!.Hi - m.Borders[c]!.Lo)) (by omega) (by omega), hw, w64_id (by omega) (by omega), show (c : Int) + 1 = ((c + 1 : Nat) : Int) from by omega]
        rfl) m.Borders.length 200 0 [] (by omega) (by omega) rfl
    rw [List.drop_zero, List.nil_append, Int.natCast_zero] at q1 q2
    rw [h1, Option.bind_some, q1, Option.bind_some, outK_inr, q2, Option.bind_some, outK_inr, i64 _ u3, w64_id (n := m.Step - by_.e3) (by omega) (by omega)]
    have gf := good_fine g u0.1 u1.1
    have gw := good_wide g hmod.1 u3.1
    change ((F35 200 m).bind fun x19 => (F35 200 (wideM m (by_.e2.tmod 6) by_.e3)).bind fun x20 => (F35 200 (fineM m by_.e0 by_.e1)).bind fun x21 => _) = _
    rw [e35 (by omega), Option.bind_some, e35 (by omega), Option.bind_some, e35 (by omega), Option.bind_some]
    have hc1 : (cond ((best m).2.2 == 0) (cond (cond (cond ((best (wideM m (by_.e2.tmod 6) by_.e3)).2.2 != 0) true ((best (fineM m by_.e0 by_.e1)).2.2 != 0)) true (decide ((best (wideM m (by_.e2.tmod 6) by_.e3)).2.1 > (best m).2.1))) true (decide ((best (fineM m by_.e0 by_.e1)).2.1 > (best m).2.1))) false) = false := by
      by_cases hb0 : (best m).2.2 = 0
      · obtain ⟨w1, w2⟩ := best_le g gw (fun l gl => ⟨goodL_wide g hmod.1 u3.1 gl, Int.le_refl _⟩) hb0
        obtain ⟨f1, f2⟩ := best_le g gf (fun l gl => ⟨⟨gl.len, gl.inb, gl.gap⟩, cost_fine g u0.1 u1.1 gl⟩) hb0
        rw [hb0, w1, f1, decide_eq_false (by omega), decide_eq_false (by omega)]; rfl
      · have : ((best m).2.2 == 0) = false := by simpa using hb0
        rw [this]; rfl
    rw [hc1, if_neg (by simp), e41 (by omega), Option.bind_some]
    by_cases h3 : (chkLeg m l).2 = 0
    · obtain ⟨_, gl⟩ := chkLeg_good.1 h3
      have glf : GoodL (fineM m by_.e0 by_.e1) l := ⟨gl.len, gl.inb, gl.gap⟩
      have h4 : (chkLeg (fineM m by_.e0 by_.e1) l).2 = 0 := chkLeg_good.2 ⟨gf, glf⟩
      have hal : (alls m l).length = m.Heights.length := by simp [alls]
      have hal2 : (alls (fineM m by_.e0 by_.e1) l).length = m.Heights.length := by simp [alls, fineM]
      rw [show ((chkLeg m l).2 == 0) = true from by simpa using h3, Bool.not_true, if_neg (by simp)]
      change ((F21 200 m l).bind fun x26 => (F21 200 (fineM m by_.e0 by_.e1) l).bind fun x27 => (F27 200 m l).bind fun x28 => (F27 200 (fineM m by_.e0 by_.e1) l).bind fun x29 => _) = _
      rw [e21 (by omega), Option.bind_some, e21 (by omega), Option.bind_some, e27 (by omega), Option.bind_some, e27 (by omega), Option.bind_some, mets, mets, if_pos h3, if_pos h3, if_pos h4, if_pos h4, if_neg (by simp [hal, hal2])]
      have hm1 := metM_len (m := m) (l := l) (by omega) (l.length + 1) 0
      have hm2 := metM_len (m := fineM m by_.e0 by_.e1) (l := l) (by omega) (l.length + 1) 0
      have q3 := all_loop (N := m.Heights.length) (L := F13L3 (alls m l, 0) (alls (fineM m by_.e0 by_.e1) l, 0))
        (fun n c hc => by rw [F13L3, if_neg (by simp; omega)])
        (fun n c hc => by
          have hf := alls_fine g u0.1 u1.1 (l := l) hc
          rw [F13L3, if_pos (by simp; omega)]
          dsimp only
          rw [idx_nat (by omega), Option.bind_some, idx_nat (by omega), Option.bind_some, decide_eq_false (by omega), Bool.not_false, optG_true, optG_true, Option.bind_some, Option.bind_some, decide_eq_false (by omega), cond_false, if_neg (by simp), w64_id (by omega) (by omega), show (c : Int) + 1 = ((c + 1 : Nat) : Int) from by omega]) m.Heights.length 200 0 (by omega) (by omega)
      have q4 := all_loop (N := (metM (fineM m by_.e0 by_.e1) l (l.length + 1) 0).length) (L := F13L4 200 (metM m l (l.length + 1) 0, 0) (metM (fineM m by_.e0 by_.e1) l (l.length + 1) 0, 0))
        (fun n c hc => by rw [F13L4, if_neg (by simpa using hc)])
        (fun n c hc => by
          rw [F13L4, if_pos (by simpa using hc), e13L5 (ps := metM m l (l.length + 1) 0) hc (by omega) (metM m l (l.length + 1) 0) [] 200 0 false rfl rfl (by omega), Option.bind_some, outK_inr, Bool.false_or]
          have hmem : (metM (fineM m by_.e0 by_.e1) l (l.length + 1) 0)[c]! ∈ metM (fineM m by_.e0 by_.e1) l (l.length + 1) 0 := by rw [getElem!_pos _ c hc]; exact List.getElem_mem _
          generalize (metM (fineM m by_.e0 by_.e1) l (l.length + 1) 0)[c]! = p at hmem ⊢
          have hp := (mem_metM (p := p) (l.length + 1) 0 (by omega) (by omega)).1 hmem
          have hany : ((metM m l (l.length + 1) 0).any fun q => (q.A == p.A) && (q.B == p.B)) = true := by
            rw [List.any_eq_true]
            exact ⟨p, (mem_metM (p := p) (l.length + 1) 0 (by omega) (by omega)).2 ⟨hp.1, hp.2.1, hp.2.2.1, metB_fine g u0.1 u1.1 hp.2.2.2⟩, by simp⟩
          rw [hany, Bool.not_true, if_neg (by simp), w64_id (by omega) (by omega), show (c : Int) + 1 = ((c + 1 : Nat) : Int) from by omega]) (metM (fineM m by_.e0 by_.e1) l (l.length + 1) 0).length 200 0 (by omega) (by omega)
      rw [Int.natCast_zero] at q3 q4
      rw [q3, Option.bind_some, outK_inr, q4, Option.bind_some, outK_inr]
      change ((F31 200 m l).bind fun x51 => (F31 200 (fineM m by_.e0 by_.e1) l).bind fun x52 => _) = _
      rw [e31 (by omega), Option.bind_some, e31 (by omega), Option.bind_some, paints, paints, if_pos h3, if_pos h4]
      by_cases hp : paintS m l = []
      · rw [if_pos hp]
        dsimp only
        rw [show ((9 : Int) != 0) = true from rfl, cond_true, optG_true, awake200]; rfl
      · obtain ⟨p1, p2⟩ := paint_fine g u0.1 u1.1 hp
        rw [if_neg hp, if_neg p1]
        dsimp only
        rw [decide_eq_true (show ((cnt (paintS (fineM m by_.e0 by_.e1) l) : Nat) : Int) ≤ (cnt (paintS m l) : Nat) by omega)]
        simp only [bne_self_eq_false, beq_self_eq_true, cond_true, cond_false, optG_true]
        rw [awake200]; rfl
    · rw [show ((chkLeg m l).2 == 0) = false from by simpa using h3, Bool.not_false, if_pos rfl, awake200]; rfl
  · rw [show ((chk m).2.2 == 0) = false from by simpa using h, Bool.not_false, if_pos rfl, awake200]; rfl
end Go.Proofs.Ytpkhbbboedoldaa
