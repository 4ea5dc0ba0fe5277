/- Pairs of Like in another order, turned round or told twice; one more pair; one more ink. -/
import Derived.Test.YtpkhbbboedoldaaPE
import Derived.Test.YtpkhbbboedoldaaP1
import Derived.Test.YtpkhbbboedoldaaPR
import Derived.Test.YtpkhbbboedoldaaPY
import Derived.Test.YtpkhbbboedoldaaPA
import Derived.Test.YtpkhbbboedoldaaDLX
namespace Go.Proofs.Ytpkhbbboedoldaa
open Go Go.Sx
set_option linter.all false

def swp (p : Pr) : Pr := ⟨p.B, p.A⟩
def withLike (m : Mp) (L : List Pr) : Mp := ⟨m.Borders, m.Step, m.Heights, m.Sides, m.Inks, L⟩
def withInks (m : Mp) (n : Int) : Mp := ⟨m.Borders, m.Step, m.Heights, m.Sides, n, m.Like⟩
def likeL (L : List Pr) (a b : Int) : Bool := L.any fun p => (p.A == a && p.B == b) || (p.A == b && p.B == a)
theorem likeB_with (m : Mp) (L : List Pr) (a b : Int) : likeB (withLike m L) a b = ((a == b) || likeL L a b) := rfl
theorem likeL_back (L : List Pr) (a b : Int) : likeL (L.map swp).reverse a b = likeL L a b := by
  unfold likeL
  rw [List.any_reverse, List.any_map]
  congr 1
  funext p
  simp only [Function.comp, swp]
  rw [Bool.or_comm, Bool.and_comm (p.B == b), Bool.and_comm (p.B == a)]
theorem good_like {m : Mp} (g : GoodM m) {L : List Pr} (h1 : L.length ≤ 8) (h2 : ∀ p ∈ L, (0 ≤ p.A ∧ p.A < m.Inks) ∧ (0 ≤ p.B ∧ p.B < m.Inks) ∧ p.A ≠ p.B) : GoodM (withLike m L) :=
  ⟨g.b0, g.b1, g.h0, g.h1, g.s1, h1, g.st0, g.st1, g.i0, g.i1, g.bor, g.hei, g.sid, h2⟩
theorem paintS_with {m : Mp} {L : List Pr} (h : likeB (withLike m L) = likeB m) (l : List Int) : paintS (withLike m L) l = paintS m l := by
  have e : fine (withLike m L) l = fine m l := by
    funext pre ink
    unfold fine
    rw [h]; rfl
  unfold paintS
  rw [e]; rfl
theorem wrongB_with {m : Mp} {L : List Pr} (h : likeB (withLike m L) = likeB m) (l x : List Int) : wrongB (withLike m L) l x = wrongB m l x := by
  funext s
  unfold wrongB
  rw [h]; rfl
theorem goodL_with {m : Mp} {l : List Int} (gl : GoodL m l) (L : List Pr) : GoodL (withLike m L) l := ⟨gl.len, gl.inb, gl.gap⟩
theorem paints_good {m : Mp} {l : List Int} (g : GoodM m) (gl : GoodL m l) : paints m l = if paintS m l = [] then ([], 0, 9) else (paintS m l, (cnt (paintS m l) : Int), 0) := by
  unfold paints; rw [if_pos (chkLeg_good.2 ⟨g, gl⟩)]
theorem mist_good {m : Mp} {l x : List Int} (h : inksE m l x = 0) : mist m l x = (wrongs (wrongB m l x) m.Sides 0, 0) := by
  unfold mist; rw [if_pos h]
/-- With more inks that are alike a painting needs no fewer inks. -/
theorem paint_more {m : Mp} {L : List Pr} (h : ∀ a b, likeB m a b = true → likeB (withLike m L) a b = true) {l : List Int} (hp : paintS (withLike m L) l ≠ []) : paintS m l ≠ [] ∧ cnt (paintS m l) ≤ cnt (paintS (withLike m L) l) := by
  obtain ⟨h1, h2, h3⟩ := (paintS_sound (withLike m L) l).resolve_left hp
  refine paintS_least h3 ?_ h2
  rw [pnt_iff] at h1 ⊢
  intro a b hab hb hm hl
  have h4 := h1 a b hab hb hm hl
  rw [← Bool.not_eq_true] at h4 ⊢
  exact fun h5 => h4 (h _ _ h5)
theorem wrong_more {m : Mp} {L : List Pr} (h : ∀ a b, likeB m a b = true → likeB (withLike m L) a b = true) {l x : List Int} {s : Pr} (hw : wrongB m l x s = true) : wrongB (withLike m L) l x s = true := by
  rw [wrongB_iff] at hw ⊢
  obtain ⟨a, b, h1, h2, h3, h4⟩ := hw
  exact ⟨a, b, h1, h2, h _ _ h3, h4⟩
theorem paint_rich {m : Mp} {n : Int} (hn : m.Inks ≤ n) {l : List Int} (hp : paintS m l ≠ []) : paintS (withInks m n) l ≠ [] ∧ cnt (paintS (withInks m n) l) ≤ cnt (paintS m l) := by
  obtain ⟨h1, h2, h3⟩ := (paintS_sound m l).resolve_left hp
  refine paintS_least h3 ?_ (fun e he => ?_)
  · rw [pnt_iff] at h1 ⊢
    intro a b hab hb hm hl
    exact h1 a b hab hb hm hl
  have := h2 e he
  exact ⟨this.1, by show e < n; omega⟩

theorem e15L1 {m : Mp} (hl : m.Like.length ≤ 8) : ∀ (i n : Nat) (acc : List Pr), i ≤ m.Like.length → i < n → acc.length + i ≤ 8 → F15L1 m n ((i : Int) - 1, acc) = some (.inr (acc ++ ((m.Like.take i).map swp).reverse)) := by
  intro i
  induction i with
  | zero =>
    intro n acc hi hn ha
    obtain ⟨n, rfl⟩ : ∃ m, n = m + 1 := ⟨n - 1, by omega⟩
    rw [F15L1, if_neg (by simp)]; simp
  | succ i ih =>
    intro n acc hi hn ha
    obtain ⟨n, rfl⟩ : ∃ m, n = m + 1 := ⟨n - 1, by omega⟩
    rw [show ((i + 1 : Nat) : Int) - 1 = (i : Int) from by omega, F15L1, if_pos (by simp)]
    dsimp only
    rw [idx_nat (by omega), Option.bind_some, Option.bind_some, F38, Option.bind_some, need_true (by simp; omega), Option.bind_some, w64_id (by omega) (by omega), ih n _ (by omega) (by omega) (by simp; omega)]
    rw [List.take_succ_eq_append_getElem (by omega), List.map_append, List.reverse_append, ← getElem!_pos m.Like i (by omega)]
    simp [swp]

theorem e15L2 {k : Nat} (hk : 20 ≤ k) {xs ys : List Int} {e f : Int} (hx : xs.length ≤ 10) (hy : ys.length ≤ 10) (h : ∀ j ∈ xs, j ∈ ys) : F15L2 k (xs, e) (ys, f) k 0 = some (.inr ()) := by
  have q := any_loop (l := xs) (L := F15L2 k (xs, e) (ys, f)) (p := fun _ => false) (r := false) (by omega)
    (fun n c h => by rw [F15L2, if_neg (by simpa using h)])
    (fun n c s hs h0 h1 hi => by
      rw [F15L2, if_pos (by simpa using h1)]
      dsimp only
      rw [hi, Option.bind_some, e46 (by omega) (by omega), Option.bind_some, List.contains_iff_mem.2 (h s hs), Bool.not_true]) xs [] k 0 rfl rfl (by omega)
  rw [q]
  have kf : ∀ y : List Int, (y.any fun _ => false) = false := by intro y; rw [List.any_eq_false]; simp
  rw [kf]; simp

/-- The pairs turned round, in the opposite order, one of them twice. -/
def backL (m : Mp) : List Pr := if 0 < m.Like.length ∧ m.Like.length < 8 then (m.Like.map swp).reverse ++ [m.Like[0]!] else (m.Like.map swp).reverse
theorem backL_mem {m : Mp} : ∀ p ∈ backL m, (∃ q ∈ m.Like, p = swp q) ∨ p ∈ m.Like := by
  intro p hp
  unfold backL at hp
  split at hp
  · rename_i h
    rcases List.mem_append.1 hp with h1 | h1
    · rw [List.mem_reverse, List.mem_map] at h1
      obtain ⟨q, hq, rfl⟩ := h1
      exact .inl ⟨q, hq, rfl⟩
    · rw [List.mem_singleton] at h1
      right
      rw [h1, getElem!_pos m.Like 0 h.1]; exact List.getElem_mem _
  · rw [List.mem_reverse, List.mem_map] at hp
    obtain ⟨q, hq, rfl⟩ := hp
    exact .inl ⟨q, hq, rfl⟩
theorem backL_like (m : Mp) : likeB (withLike m (backL m)) = likeB m := by
  funext a b
  rw [likeB_with]
  change _ = ((a == b) || likeL m.Like a b)
  congr 1
  unfold backL
  split
  · rename_i h
    have hm : m.Like[0]! ∈ m.Like := by rw [getElem!_pos m.Like 0 h.1]; exact List.getElem_mem _
    have e : likeL ((m.Like.map swp).reverse ++ [m.Like[0]!]) a b = (likeL (m.Like.map swp).reverse a b || likeL [m.Like[0]!] a b) := by unfold likeL; rw [List.any_append]
    rw [e, likeL_back]
    cases h1 : likeL m.Like a b with
    | true => rfl
    | false =>
      rw [Bool.false_or]
      unfold likeL at h1 ⊢
      rw [List.any_eq_false] at h1
      have := h1 _ hm
      simpa using this
  · exact likeL_back _ a b
theorem good_back {m : Mp} (g : GoodM m) : GoodM (withLike m (backL m)) := by
  have hl := g.l1
  refine good_like g ?_ fun p hp => ?_
  · unfold backL
    split
    · simp; omega
    · simp; omega
  · rcases backL_mem p hp with ⟨q, hq, rfl⟩ | hq
    · have := g.lik q hq
      simp only [swp]
      exact ⟨this.2.1, this.1, fun e => this.2.2 e.symm⟩
    · exact g.lik p hq

theorem law15 (m : Mp) (px : S_hachurelaw09qPast) (more : S__2quint8) (hl : Tn px.Legend) (ht : Tn px.Truth) (u0 : 0 ≤ more.e0 ∧ more.e0 ≤ 255) (u1 : 0 ≤ more.e1 ∧ more.e1 ≤ 255) : F15 200 m px more = some true := by
  unfold F15
  rw [e39 (by omega), Option.bind_some]
  by_cases h : (chk m).2.2 = 0
  · have g := chk_good.1 h
    have hb1 := g.b1
    have hl1 := g.l1
    have hi0 := g.i0
    have hi1 := g.i1
    rw [show ((chk m).2.2 == 0) = true from by simpa using h, Bool.not_true, if_neg (by simp)]
    obtain ⟨l, h1, h2⟩ := e40 (k := 200) (by omega) g hl
    rw [h1, Option.bind_some, e41 (by omega), Option.bind_some]
    by_cases h3 : (chkLeg m l).2 = 0
    · obtain ⟨_, gl⟩ := chkLeg_good.1 h3
      rw [show ((chkLeg m l).2 == 0) = true from by simpa using h3, Bool.not_true, if_neg (by simp)]
      obtain ⟨o, h4, h5, h6⟩ := e50 (k := 200) (by omega) g ht
      have hol : o.length = l.length + 1 := by omega
      have hE : inksE m l o = 0 := inksE_good.2 ⟨g, gl, hol, h6⟩
      have q1 := e15L1 hl1 m.Like.length 200 [] (by omega) (by omega) (by simp; omega)
      rw [List.take_length, List.nil_append] at q1
      rw [h4, Option.bind_some, w64_id (by omega) (by omega), q1, Option.bind_some, outK_inr]
      have q2 : (if (cond (decide ((m.Like.length : Int) > 0)) (decide ((m.Like.length : Int) < 8)) false) = true then ((idx m.Like 0).bind fun x20 => (need ((((m.Like.map swp).reverse).length + ([x20] : List Pr).length) * 16 ≤ 140737488355328 ∧ ((m.Like.map swp).reverse).length + ([x20] : List Pr).length ≤ 9223372036854775807)).bind fun _ => (some (.inr ((m.Like.map swp).reverse ++ ([x20] : List Pr))) : Option (Bool ⊕ List Pr))) else some (.inr (m.Like.map swp).reverse)) = some (.inr (backL m)) := by
        unfold backL
        by_cases hc : 0 < m.Like.length ∧ m.Like.length < 8
        · rw [if_pos (show (cond (decide ((m.Like.length : Int) > 0)) (decide ((m.Like.length : Int) < 8)) false) = true by rw [decide_eq_true (by omega), decide_eq_true (by omega)]; rfl), if_pos hc, idx_bang (by omega) (by omega), Option.bind_some, need_true (by simp; omega)]; rfl
        · rw [if_neg (show ¬ (cond (decide ((m.Like.length : Int) > 0)) (decide ((m.Like.length : Int) < 8)) false) = true by
            intro h
            by_cases h0 : (m.Like.length : Int) > 0
            · rw [decide_eq_true h0, cond_true, decide_eq_true_eq] at h; exact hc ⟨by omega, by omega⟩
            · rw [decide_eq_false h0] at h; cases h), if_neg hc]
      rw [q2, Option.bind_some, outK_inr, need_true (by simp; omega), Option.bind_some, need_true (by omega), Option.bind_some, Option.bind_some, F38, Option.bind_some, need_true (by simp; omega), Option.bind_some, List.nil_append]
      generalize ha : (IntKind.i64.wrap more.e0).tmod m.Inks = a
      generalize hb : (IntKind.i64.wrap more.e1).tmod m.Inks = b
      have gb := good_back g
      have glb := goodL_with gl (backL m)
      have hlb := backL_like m
      have hEb : inksE (withLike m (backL m)) l o = 0 := inksE_good.2 ⟨gb, glb, hol, h6⟩
      have p1 : paints (withLike m (backL m)) l = paints m l := by rw [paints_good g gl, paints_good gb glb, paintS_with hlb]
      have p2 : mist (withLike m (backL m)) l o = mist m l o := by rw [mist_good hE, mist_good hEb, wrongB_with hlb]; rfl
      have l1 := paints_len m l
      have l2 := mist_len m l o
      change ((F31 200 m l).bind fun x27 => (F31 200 (withLike m (backL m)) l).bind fun x28 => (F33 200 m l o).bind fun x29 => (F33 200 (withLike m (backL m)) l o).bind fun x30 => _) = _
      rw [e31 (by omega), Option.bind_some, e31 (by omega), Option.bind_some, e33 (by omega), Option.bind_some, e33 (by omega), Option.bind_some, p1, p2, e26 (by omega) (by omega), Option.bind_some]
      simp only [bne_self_eq_false, cond_false, Bool.not_true, Bool.not_false, optG_true]
      rw [e26 (by omega) (by omega), Option.bind_some, Bool.not_true, cond_false, if_neg (by simp)]
      generalize hL : m.Like ++ [(⟨a, b⟩ : Pr)] = L
      change ((F39 200 (withLike m L)).bind fun x34 => (if x34 = true then ((F31 200 (withLike m L) l).bind fun x37 => (F33 200 (withLike m L) l o).bind fun x38 => _) else _).bind _) = _
      have hmono : ∀ p q, likeB m p q = true → likeB (withLike m L) p q = true := by
        intro p q hpq
        rw [likeB_with]
        change ((p == q) || likeL m.Like p q) = true at hpq
        rw [Bool.or_eq_true] at hpq ⊢
        refine hpq.imp id fun h => ?_
        unfold likeL at h ⊢
        rw [← hL, List.any_append, h]; rfl
      rw [e39 (by omega), Option.bind_some]
      have mid : (if ((chk (withLike m L)).2.2 == 0) = true then ((F31 200 (withLike m L) l).bind fun x37 => (F33 200 (withLike m L) l o).bind fun x38 => if (cond (x38.2 != 0) true (cond (x37.2.2 == 0) (cond ((paints m l).2.2 != 0) true (decide (x37.2.1 < (paints m l).2.1))) false)) = true then (some (.inl false) : Option (Bool ⊕ Unit)) else ((F15L2 200 (mist m l o) x38 200 0).bind fun o40 => outK o40 (fun (ro40 : Bool) => some (.inl ro40)) (fun (so40 : Unit) => some (.inr ())))) else (some (.inr ()))) = some (.inr ()) := by
        by_cases hf : (chk (withLike m L)).2.2 = 0
        · have gf := chk_good.1 hf
          have glf := goodL_with gl L
          have hEf : inksE (withLike m L) l o = 0 := inksE_good.2 ⟨gf, glf, hol, h6⟩
          rw [if_pos (by simpa using hf), e31 (by omega), Option.bind_some, e33 (by omega), Option.bind_some, mist_good hEf, mist_good hE, paints_good g gl, paints_good gf glf]
          have hcond : (cond ((0 : Int) != 0) true (cond ((if paintS (withLike m L) l = [] then (([] : List Int), (0 : Int), (9 : Int)) else (paintS (withLike m L) l, (cnt (paintS (withLike m L) l) : Int), 0)).2.2 == 0) (cond ((if paintS m l = [] then (([] : List Int), (0 : Int), (9 : Int)) else (paintS m l, (cnt (paintS m l) : Int), 0)).2.2 != 0) true
              (decide ((if paintS (withLike m L) l = [] then (([] : List Int), (0 : Int), (9 : Int)) else (paintS (withLike m L) l, (cnt (paintS (withLike m L) l) : Int), 0)).2.1 < (if paintS m l = [] then (([] : List Int), (0 : Int), (9 : Int)) else (paintS m l, (cnt (paintS m l) : Int), 0)).2.1))) false)) = false := by
            by_cases hp : paintS (withLike m L) l = []
            · rw [if_pos hp]; rfl
            · obtain ⟨r1, r2⟩ := paint_more hmono hp
              rw [if_neg hp, if_neg r1]
              dsimp only
              rw [decide_eq_false (by omega)]; rfl
          dsimp only at hcond ⊢
          rw [hcond, if_neg (by simp)]
          have w1 := wrongs_len (wrongB m l o) m.Sides 0
          have w2 := wrongs_len (wrongB (withLike m L) l o) (withLike m L).Sides 0
          have hs1 := g.s1
          have hs2 : (withLike m L).Sides.length ≤ 10 := g.s1
          rw [e15L2 (by omega) (by omega) (by omega) (fun j hj => by
            obtain ⟨k, k1, k2, k3⟩ := (mem_wrongs _ _ _).1 hj
            exact (mem_wrongs _ _ _).2 ⟨k, k1, k2, wrong_more hmono k3⟩), Option.bind_some, outK_inr]
        · rw [if_neg (by simpa using hf)]
      refine (congrArg (fun z => Option.bind z _) mid).trans ?_
      rw [Option.bind_some, outK_inr, w64_id (by omega) (by omega)]
      change ((F39 200 (withInks m (m.Inks + 1))).bind fun x47 => if (!x47) = true then _ else ((F31 200 (withInks m (m.Inks + 1)) l).bind fun x50 => _)) = _
      rw [e39 (by omega), Option.bind_some]
      by_cases hr : (chk (withInks m (m.Inks + 1))).2.2 = 0
      · have gr := chk_good.1 hr
        have glr : GoodL (withInks m (m.Inks + 1)) l := ⟨gl.len, gl.inb, gl.gap⟩
        rw [show ((chk (withInks m (m.Inks + 1))).2.2 == 0) = true from by simpa using hr, Bool.not_true, if_neg (by simp), e31 (by omega), Option.bind_some, paints_good g gl, paints_good gr glr]
        by_cases hp : paintS m l = []
        · rw [if_pos hp]
          dsimp only
          rw [show ((9 : Int) != 0) = true from rfl, cond_true, optG_true, awake200]; rfl
        · obtain ⟨r1, r2⟩ := paint_rich (n := m.Inks + 1) (by omega) hp
          rw [if_neg hp, if_neg r1]
          dsimp only
          rw [decide_eq_true (show ((cnt (paintS (withInks m (m.Inks + 1)) l) : Nat) : Int) ≤ (cnt (paintS m l) : Nat) by omega)]
          simp only [bne_self_eq_false, beq_self_eq_true, cond_true, cond_false, optG_true]
          rw [awake200]; rfl
      · rw [show ((chk (withInks m (m.Inks + 1))).2.2 == 0) = false from by simpa using hr, Bool.not_false, if_pos rfl, awake200]; rfl
    · rw [show ((chkLeg m l).2 == 0) = false from by simpa using h3, Bool.not_false, if_pos rfl, awake200]; rfl
  · rw [show ((chk m).2.2 == 0) = false from by simpa using h, Bool.not_false, if_pos rfl, awake200]; rfl
end Go.Proofs.Ytpkhbbboedoldaa
