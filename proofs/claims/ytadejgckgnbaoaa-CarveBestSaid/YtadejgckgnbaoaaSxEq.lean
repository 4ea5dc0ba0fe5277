/- Equality of structs and arrays of plain cells, of strings and bools. -/
import Derived.Test.YtadejgckgnbaoaaSxSound5
import Derived.Laws.StructEq
import Derived.ChangeKeysEq
namespace Go.Sx
open Go
set_option linter.unusedSimpArgs false
set_option linter.unusedVariables false

section
variable {P : Program} {Z : Nat → Prop} {w : World}

theorem scal_run (d : Nat) {t : TypeId} {x y : D} {a b : Value} {r : Bool} (hb : scalB P t x = true) (h : scal x y = some r) (hx : RD Z w x a) (hy : RD Z w y b) : (Op.equalIn (d + 1) t a b).run P w = .ok r w := by
  unfold scal at h
  split at h
  · rename_i k m k' n
    split at h
    · rename_i hs
      have := same_eq hs
      subst this
      simp at h; subst h
      cases hx; cases hy
      unfold scalB at hb
      split at hb <;> simp_all
      simp [Op.equalIn, run_underlying ‹_›]
    · simp at h
  · simp at h; subst h
    cases hx; cases hy
    unfold scalB at hb
    split at hb <;> simp_all
    simp [Op.equalIn, run_underlying ‹_›]
  · simp at h; subst h
    cases hx; cases hy
    unfold scalB at hb
    split at hb <;> simp_all
    simp [Op.equalIn, run_underlying ‹_›]
  · simp at h

theorem scalB_notAgg {t : TypeId} {x : D} (hb : scalB P t x = true) (w : World) : (isAgg t).run P w = .ok false w := by
  unfold scalB at hb
  unfold isAgg
  split at hb
  · rename_i h; simp [run_underlying h]
  · rename_i h; simp [run_underlying h]
  · rename_i h; simp [run_underlying h]
  · simp at hb

theorem part_one {t : TypeId} {cs : Array Value} {off : Nat} {c : Value} (h : (isAgg t).run P w = .ok false w) (hc : cs[off]? = some c) : (part t cs off).run P w = .ok c w := by
  unfold part
  simp [h, hc]

theorem eqL_cons {x y : D} {xs ys : List D} {r : Bool} (h : eqL (x :: xs) (y :: ys) = some r) : ∃ a b, scal x y = some a ∧ eqL xs ys = some b ∧ r = (a && b) := by
  unfold eqL at h
  split at h
  · simp at *
  · rename_i h1 h2
    simp at h1 h2
    obtain ⟨rfl, rfl⟩ := h1
    obtain ⟨rfl, rfl⟩ := h2
    exact ⟨r, true, h, rfl, by simp⟩
  · rename_i h1 h2
    simp at h1 h2
    obtain ⟨rfl, rfl⟩ := h1
    obtain ⟨rfl, rfl⟩ := h2
    split at h
    · rename_i a b ha hb
      simp at h
      exact ⟨a, b, ha, hb, h.symm⟩
    · simp at h
  · simp at h

theorem eqFields_run (d : Nat) {cs ds : Array Value} : ∀ (fs : List Field) (k : Nat) (xs ys : List D) (r : Bool), eqFieldsB P fs k xs = true → eqL xs ys = some r → (∀ (j : Nat) x, xs[j]? = some x → ∃ c, cs[k + j]? = some c ∧ RD Z w x c) → (∀ (j : Nat) x, ys[j]? = some x → ∃ c, ds[k + j]? = some c ∧ RD Z w x c) →
    (Op.eqFields (d + 1) cs ds fs).run P w = .ok r w := by
  intro fs
  induction fs with
  | nil =>
    intro k xs ys r h he _ _
    cases xs with
    | nil =>
      cases ys with
      | nil => simp [eqL] at he; subst he; simp [Op.eqFields]
      | cons => simp [eqL] at he
    | cons => simp [eqFieldsB] at h
  | cons f fs ih =>
    intro k xs ys r h he hx hy
    cases xs with
    | nil => simp [eqFieldsB] at h
    | cons x xs =>
      cases ys with
      | nil => simp [eqL] at he
      | cons y ys =>
        simp only [eqFieldsB, Bool.and_eq_true] at h
        obtain ⟨⟨⟨h1, h2⟩, h3⟩, h4⟩ := h
        obtain ⟨a, b, e1, e2, rfl⟩ := eqL_cons he
        have hoff : f.offset = k := by simpa using h2
        obtain ⟨c, hc, hrc⟩ := hx 0 x rfl
        obtain ⟨c', hc', hrc'⟩ := hy 0 y rfl
        have hn := scalB_notAgg h3 w
        have p1 := part_one (P := P) (w := w) (cs := cs) (off := f.offset) (c := c) hn (by rw [hoff]; simpa using hc)
        have p2 := part_one (P := P) (w := w) (cs := ds) (off := f.offset) (c := c') hn (by rw [hoff]; simpa using hc')
        have hr := scal_run d h3 e1 hrc hrc'
        have hne : f.name ≠ "_" := by simpa using h1
        have hrest := ih (k + 1) xs ys b h4 e2 (fun j u hu => by
          obtain ⟨c, h5, h6⟩ := hx (j + 1) u (by simpa using hu)
          exact ⟨c, by rw [show k + 1 + j = k + (j + 1) by omega]; exact h5, h6⟩) (fun j u hu => by
          obtain ⟨c, h5, h6⟩ := hy (j + 1) u (by simpa using hu)
          exact ⟨c, by rw [show k + 1 + j = k + (j + 1) by omega]; exact h5, h6⟩)
        simp only [Op.eqFields, if_pos hne, Sem.run_bind, p1, p2, hr, Result.andThen_ok]
        cases a
        · simp
        · simpa using hrest

theorem eqItems_run (d : Nat) {e : TypeId} {cs ds : Array Value} : ∀ (xs ys : List D) (k : Nat) (r : Bool), xs.all (scalB P e) = true → eqL xs ys = some r → (∀ (j : Nat) x, xs[j]? = some x → ∃ c, cs[k + j]? = some c ∧ RD Z w x c) → (∀ (j : Nat) x, ys[j]? = some x → ∃ c, ds[k + j]? = some c ∧ RD Z w x c) →
    (Op.eqItems (d + 1) e 1 cs ds (List.range' k xs.length)).run P w = .ok r w := by
  intro xs
  induction xs with
  | nil =>
    intro ys k r h he _ _
    cases ys with
    | nil => simp [eqL] at he; subst he; simp [Op.eqItems]
    | cons => simp [eqL] at he
  | cons x xs ih =>
    intro ys k r h he hx hy
    cases ys with
    | nil => simp [eqL] at he
    | cons y ys =>
      simp only [List.all_cons, Bool.and_eq_true] at h
      obtain ⟨a, b, e1, e2, rfl⟩ := eqL_cons he
      obtain ⟨c, hc, hrc⟩ := hx 0 x rfl
      obtain ⟨c', hc', hrc'⟩ := hy 0 y rfl
      have hn := scalB_notAgg h.1 w
      have p1 := part_one (P := P) (w := w) (cs := cs) (c := c) (off := k * 1) hn (by rw [Nat.mul_one]; simpa using hc)
      have p2 := part_one (P := P) (w := w) (cs := ds) (c := c') (off := k * 1) hn (by rw [Nat.mul_one]; simpa using hc')
      have hr := scal_run d h.1 e1 hrc hrc'
      have hrest := ih ys (k + 1) b h.2 e2 (fun j u hu => by
        obtain ⟨c, h5, h6⟩ := hx (j + 1) u (by simpa using hu)
        exact ⟨c, by rw [show k + 1 + j = k + (j + 1) by omega]; exact h5, h6⟩) (fun j u hu => by
        obtain ⟨c, h5, h6⟩ := hy (j + 1) u (by simpa using hu)
        exact ⟨c, by rw [show k + 1 + j = k + (j + 1) by omega]; exact h5, h6⟩)
      rw [List.length_cons, List.range'_succ]
      simp only [Op.eqItems, Sem.run_bind, p1, p2, hr, Result.andThen_ok]
      cases a
      · simp
      · simpa using hrest

theorem RD.aggAt {xs : List D} {c : Value} (h : RD Z w (.agg xs) c) : ∃ cs : Array Value, c = .agg cs ∧ ∀ (j : Nat) x, xs[j]? = some x → ∃ c, cs[j]? = some c ∧ RD Z w x c := by
  cases h with
  | agg _ cs f hl hf h1 hr =>
    refine ⟨cs, rfl, fun j x hx => ⟨f j, hf j ?_, hr j x hx⟩⟩
    have := (List.getElem?_eq_some_iff.1 hx).1
    omega

theorem equal_run {t : TypeId} {x y : D} {a b : Value} {r : Bool} (hb : eqB P t x = true) (h : eqD x y = some r) (hx : RD Z w x a) (hy : RD Z w y b) : (Op.equal t a b).run P w = .ok r w := by
  have hsc : ∀ {x y : D}, (∀ xs, x ≠ .agg xs) → eqB P t x = true → eqD x y = some r → RD Z w x a → RD Z w y b → (Op.equal t a b).run P w = .ok r w := by
    intro x y hna hb h hx hy
    have h1 : scalB P t x = true := by
      cases x <;> first | exact hb | exact absurd rfl (hna _)
    have h2 : scal x y = some r := by
      unfold eqD at h
      split at h
      · exact absurd rfl (hna _)
      · exact h
    exact scal_run 9999 h1 h2 hx hy
  cases x with
  | agg xs =>
    cases y with
    | agg ys =>
      obtain ⟨cs, rfl, hcs⟩ := hx.aggAt
      obtain ⟨ds, rfl, hds⟩ := hy.aggAt
      simp only [eqB, Bool.and_eq_true, Bool.not_eq_true'] at hb
      obtain ⟨⟨hst, hg⟩, hb⟩ := hb
      simp only [eqD] at h
      show (Op.equalIn 10000 t (.agg cs) (.agg ds)).run P w = .ok r w
      split at hb
      · rename_i fs hu
        have hfo : P.fieldsOf t = fs := by simp [Program.fieldsOf, hu]
        rw [run_equalIn_struct w 9999 t cs ds (by rw [hfo]; exact hu) hst, hfo]
        exact eqFields_run 9998 fs.toList 0 xs ys r hb h (by simpa using hcs) (by simpa using hds)
      · rename_i n e hu
        simp only [Bool.and_eq_true] at hb
        obtain ⟨⟨⟨h1, h2⟩, h3⟩, h4⟩ := hb
        obtain ⟨i, hi⟩ := Option.isSome_iff_exists.1 h2
        rw [run_equalIn_array w 9999 cs ds hu hi, List.range_eq_range', show P.cellsOf e = 1 by simpa using h1, show n = xs.length by simpa using (Nat.eq_of_beq_eq_true h3).symm]
        exact eqItems_run 9998 xs ys 0 r h4 h (by simpa using hcs) (by simpa using hds)
      · simp at hb
    | _ => simp [eqD, scal] at h
  | _ => exact hsc (by intro xs e; cases e) hb h hx hy

theorem eqGuard_run {op : BinOp} {t : TypeId} {x y : Operand} {u v : D} {a b : Value} {r : Bool} (hb : eqB P t u = true) (h : eqD u v = some r) (hx : RD Z w u a) (hy : RD Z w v b) : (eqGuard op t x y a b).run P w = .ok () w := by
  cases u with
  | agg xs =>
    cases v with
    | agg ys =>
      obtain ⟨cs, rfl, _⟩ := hx.aggAt
      obtain ⟨ds, rfl, _⟩ := hy.aggAt
      simp only [eqB, Bool.and_eq_true, Bool.not_eq_true'] at hb
      exact run_eqGuard_agg w op t x y cs ds hb.1.2
    | _ => simp [eqD, scal] at h
  | v c =>
    cases v with
    | v c' =>
      cases hx; cases hy
      simp only [eqD, scal] at h
      split at h <;> simp_all [eqGuard]
    | _ => simp [eqD, scal] at h
  | _ => cases v <;> simp [eqD, scal] at h
end
end Go.Sx
