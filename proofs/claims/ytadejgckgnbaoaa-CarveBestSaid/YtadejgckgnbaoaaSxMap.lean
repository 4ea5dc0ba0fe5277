/- Maps of one's own. -/
import Derived.Test.YtadejgckgnbaoaaSxEq
import Derived.Laws.Append
namespace Go.Sx
open Go
set_option linter.unusedSimpArgs false
set_option linter.unusedVariables false

section
variable {P : Program} {Z : Nat → Prop} {w : World}

theorem RD.litv {v : Value} {c : Value} (h : RD Z w (.v v) c) : c = v := by cases h; rfl

theorem bytes_eq {a b : ByteArray} (h : (a == b) = true) : a = b := by
  rw [beq_toListBytes] at h
  have := eq_of_beq h
  rw [ByteArray.toList_eq, ByteArray.toList_eq] at this
  exact ByteArray.ext (Array.toList_inj.1 this)

theorem scal_same {x y : D} {a b : Value} (h : scal x y = some true) (hx : RD Z w x a) (hy : RD Z w y b) : a = b ∧ ∀ n, Instr.sameBits n a b = true := by
  unfold scal at h
  split at h
  · rename_i k m k' n
    split at h
    · rename_i hs
      have := same_eq hs
      subst this
      simp at h; subst h
      cases hx; cases hy
      exact ⟨rfl, fun n => by cases n <;> simp [Instr.sameBits]⟩
    · simp at h
  · simp at h; subst h
    cases hx; cases hy
    exact ⟨rfl, fun n => by cases n <;> simp [Instr.sameBits]⟩
  · simp only [Option.some.injEq] at h
    have := bytes_eq h
    subst this
    cases hx; cases hy
    exact ⟨rfl, fun n => by cases n <;> simp [Instr.sameBits, h]⟩
  · simp at h

theorem eqL_same {cs ds : Array Value} : ∀ (xs ys : List D) (k : Nat), eqL xs ys = some true → (∀ (j : Nat) x, xs[j]? = some x → ∃ c, cs[k + j]? = some c ∧ RD Z w x c) → (∀ (j : Nat) x, ys[j]? = some x → ∃ c, ds[k + j]? = some c ∧ RD Z w x c) →
    ∀ j, j < xs.length → ∃ c, cs[k + j]? = some c ∧ ds[k + j]? = some c ∧ ∀ n, Instr.sameBits n c c = true := by
  intro xs
  induction xs with
  | nil => intro ys k _ _ _ j h; simp at h
  | cons x xs ih =>
    intro ys k he hx hy j hj
    cases ys with
    | nil => simp [eqL] at he
    | cons y ys =>
      obtain ⟨a, b, e1, e2, e3⟩ := eqL_cons he
      have e4 : a = true ∧ b = true := by cases a <;> cases b <;> simp at e3 ⊢
      obtain ⟨rfl, rfl⟩ := e4
      cases j with
      | zero =>
        obtain ⟨c, hc, hr⟩ := hx 0 x rfl
        obtain ⟨c', hc', hr'⟩ := hy 0 y rfl
        obtain ⟨rfl, hs⟩ := scal_same e1 hr hr'
        exact ⟨c, hc, hc', hs⟩
      | succ j =>
        obtain ⟨c, h1, h2, h3⟩ := ih ys (k + 1) e2 (fun j u hu => by
          obtain ⟨c, h5, h6⟩ := hx (j + 1) u (by simpa using hu)
          exact ⟨c, by rw [show k + 1 + j = k + (j + 1) by omega]; exact h5, h6⟩) (fun j u hu => by
          obtain ⟨c, h5, h6⟩ := hy (j + 1) u (by simpa using hu)
          exact ⟨c, by rw [show k + 1 + j = k + (j + 1) by omega]; exact h5, h6⟩) j (by simpa using hj)
        exact ⟨c, by rw [show k + (j + 1) = k + 1 + j by omega]; exact h1, by rw [show k + (j + 1) = k + 1 + j by omega]; exact h2, h3⟩

theorem eqL_len : ∀ {xs ys : List D} {r : Bool}, eqL xs ys = some r → xs.length = ys.length := by
  intro xs
  induction xs with
  | nil => intro ys r h; cases ys <;> simp [eqL] at h ⊢
  | cons x xs ih =>
    intro ys r h
    cases ys with
    | nil => simp [eqL] at h
    | cons y ys =>
      obtain ⟨a, b, _, e2, _⟩ := eqL_cons h
      simp [ih e2]

/-- Keys that are equal are the same value, and it is so bit by bit. -/
theorem key_same {x y : D} {a b : Value} (h : eqD x y = some true) (hx : RD Z w x a) (hy : RD Z w y b) : a = b ∧ Instr.sameBits 10000 a b = true := by
  unfold eqD at h
  split at h
  · rename_i xs ys
    cases hx with
    | agg _ cs f hl hf h1 hr =>
      cases hy with
      | agg _ ds g gl gf g1 gr =>
        have hlen := eqL_len h
        have key := eqL_same (Z := Z) (w := w) (cs := cs) (ds := ds) xs ys 0 h (fun j x hx => ⟨f j, by rw [Nat.zero_add]; exact hf j (by have := (List.getElem?_eq_some_iff.1 hx).1; omega), hr j x hx⟩)
          (fun j x hx => ⟨g j, by rw [Nat.zero_add]; exact gf j (by have := (List.getElem?_eq_some_iff.1 hx).1; omega), gr j x hx⟩)
        have hcd : cs = ds := by
          apply Array.ext (by omega)
          intro i h1 h2
          obtain ⟨c, k1, k2, _⟩ := key i (by omega)
          rw [Nat.zero_add] at k1 k2
          have e1 : cs[i]? = some cs[i] := by simp [h1]
          have e2 : ds[i]? = some ds[i] := by simp [h2]
          rw [e1] at k1; rw [e2] at k2
          simp at k1 k2
          rw [k1, k2]
        subst hcd
        refine ⟨rfl, ?_⟩
        show (cs.size == cs.size && (cs.toList.zip cs.toList).all fun (x, y) => Instr.sameBits 9999 x y) = true
        simp only [beq_self_eq_true, Bool.true_and, List.all_eq_true]
        intro p hp
        obtain ⟨i, hi⟩ := List.mem_iff_getElem?.1 hp
        rw [List.getElem?_zip_eq_some] at hi
        obtain ⟨k1, k2⟩ := hi
        have hil : i < xs.length := by have := (List.getElem?_eq_some_iff.1 k1).1; simp at this; omega
        obtain ⟨c, c1, c2, c3⟩ := key i hil
        rw [Nat.zero_add] at c1
        rw [Array.getElem?_toList, c1] at k1 k2
        simp at k1 k2
        rw [← k1, ← k2]
        exact c3 9999
  · exact ⟨(scal_same h hx hy).1, (scal_same h hx hy).2 10000⟩

theorem findAsking_run {kt : TypeId} {k : D} {c : Value} (hb : eqB P kt k = true) (hk : RD Z w k c) : ∀ (kvs : List (D × D)) (es : List MapEntry) (i : Nat) (r : Option (Nat × D)), lookD k kvs i = some r → es.length = kvs.length →
    (∀ (j : Nat) x, kvs[j]? = some x → ∃ e, es[j]? = some e ∧ RD Z w x.1 e.key ∧ RD Z w x.2 e.val) →
    ∃ q : Option (Nat × Value), (Instr.findAsking kt c es i).run P w = .ok q w ∧ (match r, q with
      | none, none => True
      | some (j, x), some (j', v) => j' = j ∧ i ≤ j ∧ j - i < es.length ∧ RD Z w x v ∧ ∃ e y, es[j - i]? = some e ∧ kvs[j - i]? = some (y, x) ∧ eqD k y = some true ∧ e.val = v ∧ RD Z w y e.key
      | _, _ => False) := by
  intro kvs
  induction kvs with
  | nil =>
    intro es i r h hl _
    cases es with
    | nil => simp [lookD] at h; subst h; exact ⟨none, by simp [Instr.findAsking], trivial⟩
    | cons => simp at hl
  | cons p kvs ih =>
    intro es i r h hl hr
    cases es with
    | nil => simp at hl
    | cons e es =>
      obtain ⟨e', he', hk1, hv1⟩ := hr 0 p rfl
      simp at he'; subst he'
      unfold lookD at h
      split at h
      · rename_i he
        simp at h; subst h
        have hrun := equal_run (P := P) hb he hk hk1
        exact ⟨some (i, e.val), by simp [Instr.findAsking, hrun], rfl, Nat.le_refl _, by simp, hv1, e, p.1, by simp, by simp, he, rfl, hk1⟩
      · rename_i he
        have hrun := equal_run (P := P) hb he hk hk1
        obtain ⟨q, h1, h2⟩ := ih es (i + 1) r h (by simpa using hl) (fun j x hx => hr (j + 1) x (by simpa using hx))
        refine ⟨q, by simp [Instr.findAsking, hrun, h1], ?_⟩
        cases r with
        | none => cases q with
          | none => trivial
          | some q => exact h2.elim
        | some r =>
          cases q with
          | none => exact h2.elim
          | some q =>
            obtain ⟨g1, g2, g3, g4, e0, y, g5, g6, g7, g8, g9⟩ := h2
            have e1 : r.1 - i = (r.1 - (i + 1)) + 1 := by omega
            refine ⟨g1, by omega, by rw [e1]; simp; omega, g4, e0, y, by rw [e1]; simpa using g5, by rw [e1]; simpa using g6, g7, g8, g9⟩
      · simp at h

theorem findNow_scal {kd : TypeDesc} {kt : TypeId} {k : D} {c : Value} (hkd : P.underlying kt = some kd) (hna : ∀ xs, k ≠ .agg xs) (hb : scalB P kt k = true) (hk : RD Z w k c) : ∀ (kvs : List (D × D)) (es : List MapEntry) (i : Nat) (r : Option (Nat × D)), lookD k kvs i = some r → es.length = kvs.length →
    (∀ (j : Nat) x, kvs[j]? = some x → ∃ e, es[j]? = some e ∧ RD Z w x.1 e.key ∧ RD Z w x.2 e.val) →
    ∃ q : Option (Nat × Value), Instr.findNow kd c es i = some q ∧ (Instr.findAsking kt c es i).run P w = .ok q w := by
  have hb' : eqB P kt k = true := by cases k <;> first | exact hb | exact absurd rfl (hna _)
  intro kvs
  induction kvs with
  | nil =>
    intro es i r h hl _
    cases es with
    | nil => exact ⟨none, rfl, by simp [Instr.findAsking]⟩
    | cons => simp at hl
  | cons p kvs ih =>
    intro es i r h hl hr
    cases es with
    | nil => simp at hl
    | cons e es =>
      obtain ⟨e', he', hk1, hv1⟩ := hr 0 p rfl
      simp at he'; subst he'
      obtain ⟨pk, pv⟩ := p
      change RD Z w pk e.key at hk1
      change RD Z w pv e.val at hv1
      have hnow : ∀ b, eqD k pk = some b → Instr.sameNow kd c e.key = some b := by
        intro b he
        have hs : scal k pk = some b := by
          unfold eqD at he
          split at he
          · exact absurd rfl (hna _)
          · exact he
        unfold scal at hs
        split at hs
        · rename_i k1 m k2 n
          split at hs
          · rename_i hsm
            have := same_eq hsm
            subst this
            simp at hs; subst hs
            have e1 := hk.litv
            have e2 := hk1.litv
            subst e1
            unfold scalB at hb
            rw [hkd] at hb
            split at hb <;> simp_all
            simp [Instr.sameNow]
          · simp at hs
        · simp at hs; subst hs
          have e1 := hk.litv
          have e2 := hk1.litv
          subst e1
          unfold scalB at hb
          rw [hkd] at hb
          split at hb <;> simp_all
          simp [Instr.sameNow]
        · simp at hs; subst hs
          have e1 := hk.litv
          have e2 := hk1.litv
          subst e1
          unfold scalB at hb
          rw [hkd] at hb
          split at hb <;> simp_all
          simp [Instr.sameNow]
        · simp at hs
      unfold lookD at h
      split at h
      · rename_i he
        have hrun := equal_run (P := P) hb' he hk hk1
        exact ⟨some (i, e.val), by simp [Instr.findNow, hnow _ he], by simp [Instr.findAsking, hrun]⟩
      · rename_i he
        have hrun := equal_run (P := P) hb' he hk hk1
        obtain ⟨q, h1, h2⟩ := ih es (i + 1) r h (by simpa using hl) (fun j x hx => hr (j + 1) x (by simpa using hx))
        exact ⟨q, by simp [Instr.findNow, hnow _ he, h1], by simp [Instr.findAsking, hrun, h2]⟩
      · simp at h

theorem findKey_run {kt : TypeId} {k : D} {c : Value} (hb : eqB P kt k = true) (hk : RD Z w k c) {kvs : List (D × D)} {es : List MapEntry} {r : Option (Nat × D)} (h : lookD k kvs 0 = some r) (hl : es.length = kvs.length)
    (hr : ∀ (j : Nat) x, kvs[j]? = some x → ∃ e, es[j]? = some e ∧ RD Z w x.1 e.key ∧ RD Z w x.2 e.val) :
    ∃ q : Option (Nat × Value), (Instr.findKey kt c es).run P w = .ok q w ∧ (match r, q with
      | none, none => True
      | some (j, x), some (j', v) => j' = j ∧ j < es.length ∧ RD Z w x v ∧ ∃ e y, es[j]? = some e ∧ kvs[j]? = some (y, x) ∧ eqD k y = some true ∧ e.val = v ∧ RD Z w y e.key
      | _, _ => False) := by
  obtain ⟨q, h1, h2⟩ := findAsking_run (P := P) hb hk kvs es 0 r h hl hr
  refine ⟨q, ?_, ?_⟩
  · have hu : ∃ kd, P.underlying kt = some kd := by
      cases k with
      | agg xs =>
        simp only [eqB, Bool.and_eq_true] at hb
        have := hb.2
        split at this
        · exact ⟨_, by assumption⟩
        · exact ⟨_, by assumption⟩
        · simp at this
      | _ =>
        simp only [eqB, scalB] at hb
        split at hb <;> first | exact ⟨_, by assumption⟩ | simp at hb
    obtain ⟨kd, hkd⟩ := hu
    simp only [Instr.findKey, Sem.run_bind, run_underlying hkd, Result.andThen_ok]
    cases k with
    | agg xs =>
      obtain ⟨cs, rfl, _⟩ := hk.aggAt
      cases es with
      | nil =>
        simp [Instr.findAsking] at h1
        simp [Instr.findNow, h1]
      | cons e es =>
        have : Instr.findNow kd (.agg cs) (e :: es) 0 = none := by
          simp only [Instr.findNow]
          cases kd <;> simp [Instr.sameNow]
        rw [this]
        exact h1
    | _ =>
      obtain ⟨q', g1, g2⟩ := findNow_scal (P := P) hkd (by intro xs e; cases e) hb hk kvs es 0 r h hl hr
      rw [h1] at g2
      simp at g2; subst g2
      rw [g1]
      simp
  · cases r with
    | none => cases q with
      | none => trivial
      | some q => exact h2.elim
    | some r =>
      cases q with
      | none => exact h2.elim
      | some q =>
        obtain ⟨g1, g2, g3, g4, e0, y, g5, g6, g7, g8, g9⟩ := h2
        exact ⟨g1, by simpa using g3, g4, e0, y, by simpa using g5, by simpa using g6, g7, g8, g9⟩

theorem checkScal (em : Bool) (n : Nat) {t : TypeId} {x : D} {c : Value} (hb : scalB P t x = true) (hx : RD Z w x c) : (Instr.checkKey em (n + 1) t c).run P w = .ok () w := by
  unfold scalB at hb
  split at hb
  all_goals first
    | (simp at hb; done)
    | (rename_i h; have := hx.litv; subst this; simp [Instr.checkKey, run_underlying h])

theorem checkKey_at (em : Bool) (d : Nat) {kt : TypeId} {k : D} {c : Value} (hb : eqB P kt k = true) (hk : RD Z w k c) : (Instr.checkKey em (d + 2) kt c).run P w = .ok () w := by
  cases k with
  | agg xs =>
    obtain ⟨cs, rfl, hcs⟩ := hk.aggAt
    simp only [eqB, Bool.and_eq_true] at hb
    have hb2 := hb.2
    split at hb2
    · rename_i fs hu
      rw [show d + 2 = (d + 1) + 1 from rfl, Instr.checkKey]
      simp only [Sem.run_bind, run_underlying hu, Result.andThen_ok]
      rw [← Array.forIn_toList]
      have key : ∀ (l : List Field) (k : Nat) (xs : List D), eqFieldsB P l k xs = true → (∀ (j : Nat) x, xs[j]? = some x → ∃ c, cs[k + j]? = some c ∧ RD Z w x c) →
          Sem.run P (forIn l PUnit.unit fun f _ => do
            if f.name ≠ "_" then Instr.checkKey em (d + 1) f.type (← part f.type cs f.offset)
            pure (ForInStep.yield PUnit.unit)) w = .ok PUnit.unit w := by
        intro l
        induction l with
        | nil => intro k xs _ _; simp
        | cons f l ih =>
          intro k xs h hx
          cases xs with
          | nil => simp [eqFieldsB] at h
          | cons x xs =>
            simp only [eqFieldsB, Bool.and_eq_true] at h
            obtain ⟨⟨⟨h1, h2⟩, h3⟩, h4⟩ := h
            have hoff : f.offset = k := by simpa using h2
            obtain ⟨c, hc, hrc⟩ := hx 0 x rfl
            have p1 := part_one (P := P) (w := w) (cs := cs) (off := f.offset) (c := c) (scalB_notAgg h3 w) (by rw [hoff]; simpa using hc)
            have hne : f.name ≠ "_" := by simpa using h1
            have hck := checkScal (P := P) em d h3 hrc
            have hrest := ih (k + 1) xs h4 (fun j u hu => by
              obtain ⟨c, h5, h6⟩ := hx (j + 1) u (by simpa using hu)
              exact ⟨c, by rw [show k + 1 + j = k + (j + 1) by omega]; exact h5, h6⟩)
            simp only [List.forIn_cons, Sem.run_bind, if_pos hne, p1, hck, Result.andThen_ok, Sem.run_pure]
            exact hrest
      have := key fs.toList 0 xs hb2 (by simpa using hcs)
      first
        | exact this
        | (simp only [this, Result.andThen_ok, Sem.run_pure])
    · rename_i n e hu
      simp only [Bool.and_eq_true] at hb2
      obtain ⟨⟨⟨h1, h2⟩, h3⟩, h4⟩ := hb2
      obtain ⟨i, hi⟩ := Option.isSome_iff_exists.1 h2
      have hsz : (sizeOf e).run P w = .ok 1 w := by rw [run_sizeOf w hi]; congr 1; simpa using h1
      rw [show d + 2 = (d + 1) + 1 from rfl, Instr.checkKey]
      simp only [Sem.run_bind, run_underlying hu, Result.andThen_ok]
      simp only [Std.Legacy.Range.forIn_eq_forIn_range', Std.Legacy.Range.size, Nat.sub_zero, Nat.add_one_sub_one, Nat.div_one]
      have hn : n = xs.length := by simpa using (Nat.eq_of_beq_eq_true h3).symm
      subst hn
      have key : ∀ (xs : List D) (k : Nat), xs.all (scalB P e) = true → (∀ (j : Nat) x, xs[j]? = some x → ∃ c, cs[k + j]? = some c ∧ RD Z w x c) →
          Sem.run P (forIn (List.range' k xs.length) PUnit.unit fun i _ => do
            Instr.checkKey em (d + 1) e (← part e cs (i * (← sizeOf e)))
            pure (ForInStep.yield PUnit.unit)) w = .ok PUnit.unit w := by
        intro xs
        induction xs with
        | nil => intro k _ _; simp
        | cons x xs ih =>
          intro k h hx
          simp only [List.all_cons, Bool.and_eq_true] at h
          obtain ⟨c, hc, hrc⟩ := hx 0 x rfl
          have p1 := part_one (P := P) (w := w) (cs := cs) (off := k * 1) (c := c) (scalB_notAgg h.1 w) (by rw [Nat.mul_one]; simpa using hc)
          have hck := checkScal (P := P) em d h.1 hrc
          have hrest := ih (k + 1) h.2 (fun j u hu => by
            obtain ⟨c, h5, h6⟩ := hx (j + 1) u (by simpa using hu)
            exact ⟨c, by rw [show k + 1 + j = k + (j + 1) by omega]; exact h5, h6⟩)
          rw [List.length_cons, List.range'_succ]
          simp only [List.forIn_cons, Sem.run_bind, hsz, p1, hck, Result.andThen_ok, Sem.run_pure]
          exact hrest
      have := key xs 0 h4 (by simpa using hcs)
      first
        | exact this
        | (simp only [this, Result.andThen_ok, Sem.run_pure])
    · simp at hb2
  | _ => exact checkScal em (d + 1) hb hk
theorem checkKey_run (em : Bool) {kt : TypeId} {k : D} {c : Value} (hb : eqB P kt k = true) (hk : RD Z w k c) : (Instr.checkKey em 10000 kt c).run P w = .ok () w := checkKey_at em 9998 hb hk
end
end Go.Sx
