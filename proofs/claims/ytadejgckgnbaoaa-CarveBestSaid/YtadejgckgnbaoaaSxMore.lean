/- More rules for code: scopes, nil in a cell, parts that become data, a choice of objects. -/
import Derived.Test.YtadejgckgnbaoaaSxAny4
import Derived.Test.YtadejgckgnbaoaaSxRound
import Derived.Test.YtadejgckgnbaoaaSxLib
namespace Go.Sx
open Go
set_option linter.unusedSimpArgs false
set_option linter.unusedVariables false

section
variable {P : Program} {tt : Tab} {rd : Bool} {N fl : Nat} {T T' : St} {H H' : List O} {ps : List Prop} {Q : Exit → St → List O → Prop}

theorem stepR_scope {b : Frame} {a : Act} {k : List Item} {cs : List Frame} {w : World} {c : Code} : step P (lone (b.atR a (.code (.scope c) :: k)) cs w) = .next (lone (b.atR a (.code c :: .inScope c :: k)) cs w) :=
  step_lone_go (by simp [stepG, stepG.exec, Frame.atR])
theorem stepR_inScope {b : Frame} {a : Act} {k : List Item} {cs : List Frame} {w : World} {c : Code} : step P (lone (b.atR a (.inScope c :: k)) cs w) = .next (lone (b.atR a k) cs w) :=
  step_lone_go (by simp [stepG, stepG.exec, Frame.atR])

def noGotoQ (Q : Exit → Act → World → Prop) : Exit → Act → World → Prop
  | .goto _, _, _ => False
  | e, a, w => Q e a w
theorem wpIn_scope {F : Fence} {n : Nat} {Q : Exit → Act → World → Prop} {a : Act} {w : World} {c : Code} (h : c.wpIn F n P (noGotoQ Q) a w) : (Code.scope c).wpIn F n P Q a w := by
  intro b k cs hro hb hr
  have h0 : (lone (b.atR a (.code (.scope c) :: k)) cs w).fenced P F := fenced_calm hb hr rfl
  obtain ⟨e, a₁, w₁, hq, harr⟩ := h b (.inScope c :: k) cs hro hb hr
  cases e with
  | normal => exact ⟨.normal, a₁, w₁, hq, .head h0 stepR_scope (StepsIn.trans harr (.one (fenced_calm hb hr rfl) stepR_inScope))⟩
  | exit id' =>
    have hx : exitTo id' (.inScope c :: k) = exitTo id' k := by simp [exitTo]
    exact ⟨.exit id', a₁, w₁, hq, fun k' hk => .head h0 stepR_scope (harr.1 k' (by rw [hx]; exact hk)),
        fun hr' hk => let ⟨k₁, h1, h2⟩ := harr.2 hr' (by rw [hx]; exact hk); ⟨k₁, h1, .head h0 stepR_scope h2⟩⟩
  | goto l => exact hq.elim
  | ret => exact ⟨_, a₁, w₁, hq, .of_steps (.one h0 stepR_scope) harr⟩
  | panic ch => exact ⟨_, a₁, w₁, hq, .of_steps (.one h0 stepR_scope) harr⟩
  | outgrown => exact ⟨_, a₁, w₁, hq, .of_steps (.one h0 stepR_scope) harr⟩

def noGotoA (Q : Exit → St → List O → Prop) : Exit → St → List O → Prop
  | .goto _, _, _ => False
  | e, T, H => Q e T H
theorem awp_scope {c : Code} (h : awp P rd N fl c (noGotoA Q) T H) : awp P rd N fl (.scope c) Q T H := by
  intro ro hro Γ a w hm hi
  refine wpIn_scope (wpIn_mono (h ro hro Γ a w hm hi) ?_)
  rintro e a' w' ⟨T', H', hq, hi'⟩
  cases e with
  | goto l => exact hq.elim
  | _ => exact ⟨T', H', hq, hi'⟩

/-- The nil slice in a cell becomes a row of one's own. -/
theorem awp_nilC {c : Code} (k j e : Nat) (xs : List V) (H' : List O) (hk : H[k]? = some (.cells xs)) (hj : xs[j]? = some (.d (.v (.slice none 0 0)))) (hH : H.set k (.cells (xs.set j (.sl e H.length 0 0))) ++ [.data []] = H')
    (h : awp P rd N fl c Q T H') : awp P rd N fl c Q T H := by
  subst hH
  intro ro hro Γ a w hm hi
  obtain ⟨bs, Z, hW, hI⟩ := hi
  refine h ro hro Γ a w hm ⟨bs ++ [none], Z, ?_, hI.mono bs_push (fun _ h => h) (fun _ _ => rfl)⟩
  have hklt := (List.getElem?_eq_some_iff.1 hk).1
  have hcase : ∀ (i : Nat) (p : Nat × Nat), (bs ++ [none])[i]? = some (some p) → bs[i]? = some (some p) := by
    intro i p h
    rw [List.getElem?_append] at h
    split at h
    · exact h
    · rcases Nat.eq_zero_or_pos (i - bs.length) with h0 | h0
      · rw [h0] at h; simp at h
      · rw [List.getElem?_eq_none (by simp; omega)] at h; simp at h
  constructor
  · simp [hW.lenH]
  · intro i o q ho hq
    rw [List.getElem?_append] at ho hq
    simp only [List.length_set] at ho
    rw [← hW.lenH] at ho
    split at ho
    · rename_i hlt
      rw [if_pos hlt] at hq
      rw [List.getElem?_set] at ho
      split at ho
      · rename_i e1; subst e1
        simp only [hklt, if_true, Option.some.injEq] at ho
        subst ho
        have := hW.objs _ _ _ hk hq
        cases q with
        | none => simp only [okO] at this; subst this; simp at hj
        | some q =>
          obtain ⟨b, kk⟩ := q
          obtain ⟨cs, t, g1, g2, g3, g4⟩ := this
          refine ⟨cs, t, g1, g2, by simpa using g3, fun n x hx => ?_⟩
          rw [List.getElem?_set] at hx
          split at hx
          · rename_i e1; subst e1
            split at hx <;> simp at hx
            subst hx
            obtain ⟨c', e1, e2, e3⟩ := g4 j _ hj
            refine ⟨c', e1, e2, ?_⟩
            rw [e3.lit]
            try rw [← hW.lenH]
            exact .sl0 e _ (by simp)
          · obtain ⟨c', e1, e2, e3⟩ := g4 n x hx
            exact ⟨c', e1, e2, e3.mono bs_push (fun _ h => h) (fun _ _ => rfl)⟩
      · exact (hW.objs i o q ho hq).mono bs_push (fun _ h => h) (fun _ _ => rfl) (fun _ _ _ => rfl)
    · rename_i hlt
      rw [if_neg hlt] at hq
      rcases Nat.eq_zero_or_pos (i - bs.length) with h0 | h0
      · rw [h0] at ho hq
        simp at ho hq
        subst ho; subst hq; rfl
      · rw [List.getElem?_eq_none (by simp; omega)] at ho; simp at ho
  · intro i j b k k' hi hj; exact hW.nodup i j b k k' (hcase _ _ hi) (hcase _ _ hj)
  · intro i b k hi; exact hW.disj i b k (hcase _ _ hi)
  · intro i b k hi; exact hW.lt i b k (hcase _ _ hi)
  · exact hW.zlt
  · exact hW.z0
  · intro i b k hi; exact hW.fresh i b k (hcase _ _ hi)
  · exact hW.zfresh
  · exact hW.size
  · exact hW.frame
  · exact hW.os
  · exact hW.tape
  · exact hW.output
  · intro i p hp
    obtain ⟨h1, o, h2, h3⟩ := hW.pin i p hp
    refine ⟨bs_push _ _ h1, ?_⟩
    have hil : i < H.length := (List.getElem?_eq_some_iff.1 h2).1
    rw [List.getElem?_append_left (by simpa using hil), List.getElem?_set]
    split
    · first
        | exact ⟨_, rfl, rfl⟩
        | exact ⟨_, if_pos hklt, rfl⟩
    · exact ⟨o, h2, h3⟩

/-- A choice of objects, in a new order. The first ones keep their numbers. -/
def selB (is : List Nat) (bs : Bs) : Bs := is.map fun i => (bs[i]?).getD none
def selH (is : List Nat) (H : List O) : List O := is.map fun i => ((H[i]?).getD default).re (inIds is 0)
def selT (is ks : List Nat) (T : St) : St := (keepT ks T).map fun q => (q.1, q.2.re (inIds is 0))
def firstB : List Nat → Nat → Nat → Bool
  | _, _, 0 => true
  | i :: is, k, n + 1 => Nat.beq i k && firstB is (k + 1) n
  | [], _, _ + 1 => false

theorem firstB_get : ∀ (is : List Nat) (k n : Nat), firstB is k n = true → ∀ j, j < n → is[j]? = some (k + j) := by
  intro is
  induction is with
  | nil => intro k n h j hj; cases n with
    | zero => omega
    | succ n => simp [firstB] at h
  | cons i is ih =>
    intro k n h j hj
    cases n with
    | zero => omega
    | succ n =>
      simp only [firstB, Bool.and_eq_true, Nat.beq_eq] at h
      cases j with
      | zero => simp [h.1]
      | succ j => rw [List.getElem?_cons_succ, ih (k + 1) n h.2 j (by omega)]; congr 1; omega

theorem Inv.sel {Γ : Ctx} {a : Act} {w : World} (hi : Inv N Γ T H a w) (is ks : List Nat) (hnd : nodupB is = true) (hlt : (is.all fun i => Nat.blt i H.length) = true) (hf : firstB is 0 fl = true) (hm : Γ.n0 ≤ fl) : Inv N Γ (selT is ks T) (selH is H) a w := by
  obtain ⟨bs, Z, hW, hI⟩ := hi
  have hlt' : ∀ i ∈ is, i < H.length := fun i hi => by simpa using List.all_eq_true.1 hlt i hi
  have hget : ∀ (j : Nat) (q : Option (Nat × Nat)), (selB is bs)[j]? = some q → ∃ i, is[j]? = some i ∧ bs[i]? = some q := by
    intro j q h
    simp only [selB, List.getElem?_map, Option.map_eq_some_iff] at h
    obtain ⟨i, hi, h⟩ := h
    have hib : i < bs.length := by rw [hW.lenH]; exact hlt' i (List.mem_of_getElem? hi)
    rw [List.getElem?_eq_getElem hib] at h
    simp at h
    exact ⟨i, hi, by rw [List.getElem?_eq_getElem hib, h]⟩
  have hre : ∀ (i j : Nat) (o : Option (Nat × Nat)), inIds is 0 i = some j → bs[i]? = some o → (selB is bs)[j]? = some o := by
    intro i j o h1 h2
    obtain ⟨_, h3⟩ := inIds_some is 0 i j h1
    simp only [Nat.sub_zero] at h3
    simp only [selB, List.getElem?_map, h3, Option.map_some, h2, Option.getD_some]
  refine ⟨selB is bs, Z, ?_, hI.size, hI.defers, fun i x hx => ?_⟩
  · constructor
    · simp [selB, selH]
    · intro j o q ho hq
      obtain ⟨i, h1, h2⟩ := hget j q hq
      simp only [selH, List.getElem?_map, h1, Option.map_some, Option.some.injEq] at ho
      have hiH : i < H.length := hlt' i (List.mem_of_getElem? h1)
      rw [List.getElem?_eq_getElem hiH] at ho
      simp only [Option.getD_some] at ho
      subst ho
      exact (hW.objs i _ q (List.getElem?_eq_getElem hiH) h2).re _ hre
    · intro j j' b k k' h1 h2
      obtain ⟨i, g1, g2⟩ := hget _ _ h1
      obtain ⟨i', g3, g4⟩ := hget _ _ h2
      have := hW.nodup _ _ _ _ _ g2 g4
      subst this
      have e1 := inIds_get is 0 i j hnd g1
      have e2 := inIds_get is 0 i j' hnd g3
      rw [e1] at e2; simp at e2; exact e2
    · intro j b k h; obtain ⟨i, _, g⟩ := hget _ _ h; exact hW.disj _ _ _ g
    · intro j b k h; obtain ⟨i, _, g⟩ := hget _ _ h; exact hW.lt _ _ _ g
    · exact hW.zlt
    · exact hW.z0
    · intro j b k h; obtain ⟨i, _, g⟩ := hget _ _ h; exact hW.fresh _ _ _ g
    · exact hW.zfresh
    · exact hW.size
    · exact hW.frame
    · exact hW.os
    · exact hW.tape
    · exact hW.output
    · intro i p hp
      obtain ⟨h1, o, h2, h3⟩ := hW.pin i p hp
      have hi0 : i < fl := Nat.lt_of_lt_of_le (Γ.pinlt i p hp) hm
      have hii : is[i]? = some i := by have := firstB_get is 0 fl hf i hi0; simpa using this
      refine ⟨hre i i p (by simpa using inIds_get is 0 i i hnd hii) h1, o.re (inIds is 0), ?_, by rw [re_isData]; exact h3⟩
      simp only [selH, List.getElem?_map, hii, Option.map_some, h2, Option.getD_some]
  · simp only [selT, List.mem_map] at hx
    obtain ⟨⟨i', y⟩, hy, he⟩ := hx
    simp at he
    obtain ⟨rfl, rfl⟩ := he
    simp only [keepT, List.mem_filterMap, Option.map_eq_some_iff, Prod.mk.injEq] at hy
    obtain ⟨k, _, v, hl, rfl, rfl⟩ := hy
    have := hI.rel k v (mem_of_lookup hl)
    exact ⟨this.1, this.2.re _ hre⟩

def selOk (is : List Nat) (n fl : Nat) : Bool := nodupB is && (is.all fun i => Nat.blt i n) && firstB is 0 fl
theorem awp_sel {c : Code} (is ks : List Nat) (T' : St) (H' : List O) (hok : selOk is H.length fl = true) (hT : selT is ks T = T') (hH : selH is H = H') (h : awp P rd N fl c Q T' H') : awp P rd N fl c Q T H := by
  subst hT; subst hH
  simp only [selOk, Bool.and_eq_true] at hok
  exact fun ro hro Γ a w hm hi => h ro hro Γ a w hm (hi.sel is ks hok.1.1 hok.1.2 hok.2 hm)

/-- A post that may be narrowed to a choice of objects first. -/
def Sel (fl : Nat) (Q : Exit → St → List O → Prop) : Exit → St → List O → Prop := fun e T H => ∃ is ks T' H', selOk is H.length fl = true ∧ selT is ks T = T' ∧ selH is H = H' ∧ Q e T' H'
theorem Sel.mk {e : Exit} (is ks : List Nat) (hok : selOk is H.length fl = true) (hT : selT is ks T = T') (hH : selH is H = H') (h : Q e T' H') : Sel fl Q e T H := ⟨is, ks, T', H', hok, hT, hH, h⟩
theorem awp_selQ {c : Code} (h : awp P rd N fl c (Sel fl Q) T H) : awp P rd N fl c Q T H := by
  intro ro hro Γ a w hm hi
  refine wpIn_mono (h ro hro Γ a w hm hi) ?_
  rintro e a' w' ⟨T1, H1, ⟨is, ks, T2, H2, hok, rfl, rfl, hq⟩, hi'⟩
  simp only [selOk, Bool.and_eq_true] at hok
  exact ⟨_, _, hq, hi'.sel is ks hok.1.1 hok.1.2 hok.2 hm⟩
end
end Go.Sx
