/- Regions that draw their order, with operations in the body that make or write objects: the rule. -/
import Derived.Test.YtadejgckgnbaoaaSxAny2
namespace Go.Sx
open Go
set_option linter.unusedSimpArgs false
set_option linter.unusedVariables false

section
variable {P : Program} {tt : Tab} {rd : Bool} {N fl : Nat} {Γ : Ctx}

theorem getF_congr {lk lk' : Nat → Option V} {dsts : List (Option Tmp)} {o : Oper} (hl : ∀ x ∈ looks dsts o, lk x = lk' x) : ∀ x ∈ o.op.operands, getF lk x = getF lk' x := by
  intro x hx
  cases x with
  | tmp t =>
    simp only [getF]
    rw [hl t (List.mem_append_left _ (List.mem_filterMap.2 ⟨.tmp t, by simpa using hx, rfl⟩))]
  | _ => rfl

section congr
variable {H H' : List O}
theorem rowAt_congr {id : Nat} (h : H[id]? = H'[id]?) : rowAt H id = rowAt H' id := by unfold rowAt; rw [h]
theorem evLoad_H {i : TI} {h : Hint} {v : V} (hv : ∀ id ∈ v.ids, H[id]? = H'[id]?) : evLoad i h H v = evLoad i h H' v := by
  cases v with
  | ref id off => simp only [evLoad, rowAt_congr (hv id (by simp [V.ids]))]
  | _ => rfl
theorem evSlice_H {i : TI} {h : Hint} {lo hi : Option V} {v : V} (hv : ∀ id ∈ v.ids, H[id]? = H'[id]?) : evSlice tt i h H lo hi v = evSlice tt i h H' lo hi v := by
  cases v with
  | ref id off => simp only [evSlice, rowAt_congr (hv id (by simp [V.ids]))]
  | d x => cases x <;> rfl
  | _ => rfl
theorem evLook_H {i : TI} {h : Hint} {ok : Bool} {v k : V} (hv : ∀ id ∈ v.ids, H[id]? = H'[id]?) : evLook P tt i h H ok v k = evLook P tt i h H' ok v k := by
  cases v with
  | mp id => cases k <;> simp only [evLook, hv id (by simp [V.ids])]
  | _ => rfl
theorem evLen_H {v : V} (hv : ∀ id ∈ v.ids, H[id]? = H'[id]?) : evLen H v = evLen H' v := by
  cases v with
  | mp id => simp only [evLen, hv id (by simp [V.ids])]
  | d x =>
    cases x with
    | v c => unfold evLen; split <;> simp_all
    | _ => rfl
  | _ => rfl
theorem argOk_H {v : V} {d : D} (hv : ∀ id ∈ v.ids, H[id]? = H'[id]?) : argOk H v d = argOk H' v d := by
  cases v with
  | sl e id off n =>
    cases d with
    | list t e' m ds => cases t <;> simp only [argOk, rowAt_congr (hv id (by simp [V.ids]))]
    | _ => rfl
  | _ => rfl
theorem argsOk_H : ∀ {vs : List V} {ds : List D}, (∀ v ∈ vs, ∀ id ∈ v.ids, H[id]? = H'[id]?) → argsOk H vs ds = argsOk H' vs ds := by
  intro vs
  induction vs with
  | nil => intro ds _; cases ds <;> rfl
  | cons v vs ih =>
    intro ds h
    cases ds with
    | nil => rfl
    | cons d ds => simp only [argsOk, argOk_H (h v (by simp)), ih (fun u hu => h u (List.mem_cons_of_mem _ hu))]
theorem evCall_H {h : Hint} {f : V} {vs : List V} (hv : ∀ v ∈ vs, ∀ id ∈ v.ids, H[id]? = H'[id]?) : evCall P h H f vs = evCall P h H' f vs := by
  unfold evCall
  split
  · split
    · rfl
    · rw [argsOk_H hv]
  · rfl
  · rfl

theorem evPure_H {o : Oper} {h : Hint} {get : Operand → V} (hg : ∀ x ∈ o.op.operands, ∀ id ∈ (get x).ids, H[id]? = H'[id]?) : evPure P tt o h get H = evPure P tt o h get H' := by
  unfold evPure
  cases ho : o.op with
  | load t x =>
    simp only
    rw [ho] at hg
    congr 1; funext i
    exact evLoad_H (hg x (by simp [Op.operands]))
  | lookup t x k ok =>
    rw [ho] at hg
    simp only
    congr 1; funext i
    exact evLook_H (hg x (by simp [Op.operands]))
  | slice t x lo hi mx =>
    rw [ho] at hg
    cases mx with
    | none =>
      simp only
      congr 1; funext i
      exact evSlice_H (hg x (by simp [Op.operands]))
    | some _ => rfl
  | call c =>
    rw [ho] at hg
    simp only
    cases hc : c.callee with
    | builtin b =>
      cases b <;> try rfl
      simp only
      unfold evLenC
      split
      · rename_i x t ts ha ht
        congr 1; funext i
        have hx : ∀ id ∈ (get x).ids, H[id]? = H'[id]? := hg x (by
          simp only [Op.operands, Call.operands, hc]
          have : x ∈ c.args := by rw [← Array.mem_toList_iff, ha]; simp
          simp [this])
        split
        · exact evLen_H hx
        · rfl
      · rfl
    | value f =>
      simp only
      refine evCall_H (fun v hv => ?_)
      obtain ⟨x, hx, rfl⟩ := List.mem_map.1 hv
      exact hg x (by simp only [Op.operands, Call.operands, hc]; simp at hx; simp [hx])
    | _ => rfl
  | _ => rfl

theorem guardF_congr {lk lk' : Nat → Option V} {dsts : List (Option Tmp)} {o : Oper} (hl : ∀ x ∈ looks dsts o, lk x = lk' x) : guardF dsts lk o.guard = guardF dsts lk' o.guard := by
  unfold guardF
  cases hg : o.guard with
  | none => rfl
  | some q =>
    obtain ⟨j, want⟩ := q
    simp only
    cases hd : dsts[j]? with
    | none => rfl
    | some d =>
      cases d with
      | none => rfl
      | some d =>
        simp only
        rw [hl d (List.mem_append_right _ (by simp [hg, hd]))]

theorem foot_mem {o : Oper} {h : Hint} {lk : Nat → Option V} {x : Operand} (hx : x ∈ o.op.operands) : ∀ id ∈ (getF lk x).ids, id ∈ footOf o h lk := by
  intro id hid
  refine List.mem_append_left _ (List.mem_flatMap.2 ⟨x, by simpa using hx, hid⟩)

theorem bare_ids (v : V) : ∀ id ∈ v.bare.ids, id ∈ v.ids := by
  intro id h
  cases v with
  | when b x => simpa [V.bare, V.ids] using h
  | _ => exact h

theorem evVal_H {dsts : List (Option Tmp)} {o : Oper} {h : Hint} {lk : Nat → Option V} (hH : ∀ id ∈ footOf o h lk, H[id]? = H'[id]?) : evVal P tt dsts o h lk H = evVal P tt dsts o h lk H' := by
  unfold evVal
  split
  · rfl
  · exact evPure_H (fun x hx id hid => hH id (foot_mem hx id hid))
  · unfold evGuard
    split
    · rfl
    · rw [evPure_H (H := H) (H' := H') (fun x hx id hid => hH id (foot_mem hx id (bare_ids _ id hid)))]

theorem subH_H : ∀ {is : List Nat} {ids : List (Nat × Bool)}, (∀ id ∈ ids.map (·.1), H[id]? = H'[id]?) → subH H is ids = subH H' is ids := by
  intro is ids
  induction ids with
  | nil => intro _; rfl
  | cons p ids ih =>
    intro h
    unfold subH
    rw [h p.1 (by simp), ih (fun id hid => h id (by simp only [List.map_cons]; exact List.mem_cons_of_mem _ hid))]

theorem evStore_H {i : TI} {h : Hint} {id off : Nat} {y : V} (hH : H[id]? = H'[id]?) (hlen : H.length = H'.length) :
    (evStore i h [] H (.ref id off) y).map (fun q => (q.2.2.1.getD id default, q.2.2.2)) = (evStore i h [] H' (.ref id off) y).map (fun q => (q.2.2.1.getD id default, q.2.2.2)) := by
  have hget : ∀ n : O, (H.set id n).getD id default = (H'.set id n).getD id default := by
    intro n
    by_cases hlt : id < H.length
    · simp [hlt, hlen ▸ hlt]
    · simp [hlt, show ¬ id < H'.length by omega]
  unfold evStore
  simp only
  rw [hH]
  split
  · split
    · split
      · simp only [Option.map_some]; rw [hget]
      · split
        · simp only [Option.map_some]; rw [hget]
        · rfl
    · rfl
  · split
    · split
      · simp only [Option.map_some]; rw [hget]
      · rfl
    · rfl
  · split
    · split
      · simp only [Option.map_some]; rw [hget]
      · rfl
    · rfl
  · rfl

theorem evB_congr {dsts : List (Option Tmp)} {o : Oper} {h : Hint} {lk lk' : Nat → Option V} (hl : ∀ x ∈ looks dsts o, lk x = lk' x) (hH : ∀ id ∈ footOf o h lk, H[id]? = H'[id]?) (hlen : H.length = H'.length) :
    evB P tt N dsts o h lk H = evB P tt N dsts o h lk' H' := by
  have hg := getF_congr hl
  have hmap : ∀ {l : List Operand}, (∀ x ∈ l, x ∈ o.op.operands) → l.map (getF lk) = l.map (getF lk') := fun h => List.map_congr_left fun x hx => hg x (h x hx)
  unfold evB
  split
  · split
    · rename_i r
      have hr : H[r]? = H'[r]? := hH r (List.mem_append_right _ (by simp [hintIds]))
      rw [hr]
      split
      · split
        · rfl
        · rename_i t x ho
          rw [hg x (by rw [ho]; simp [Op.operands])]
        · rfl
      · rfl
    · rename_i ids r Hc
      have hids : ∀ id ∈ ids.map (·.1), H[id]? = H'[id]? := fun id hid => hH id (List.mem_append_right _ (by simpa [hintIds] using hid))
      rw [subH_H hids, hlen]
      split
      · split
        · rename_i c ho
          split
          · rename_i f hc
            rw [hg f (by rw [ho]; simp [Op.operands, Call.operands, hc]), hmap (l := c.args.toList) (fun x hx => by rw [ho]; simp at hx; simp [Op.operands, Call.operands, hx])]
          · rfl
        · rfl
      · rfl
    · rename_i hx0 hn1 hn2
      split
      · rename_i t x y ho
        split
        · have hx := hg x (by rw [ho]; simp [Op.operands])
          have hy := hg y (by rw [ho]; simp [Op.operands])
          rw [← hx, ← hy]
          cases ht : tt.lookup t with
          | none => rfl
          | some i =>
            cases hfx : getF lk x with
            | ref id off =>
              simp only
              have hid : H[id]? = H'[id]? := hH id (foot_mem (x := x) (by rw [ho]; simp [Op.operands]) id (by rw [hfx]; simp [V.ids]))
              have := evStore_H (i := i) (h := h) (off := off) (y := getF lk y) hid hlen
              cases e1 : evStore i h [] H (.ref id off) (getF lk y) with
              | none =>
                rw [e1] at this
                cases e2 : evStore i h [] H' (.ref id off) (getF lk y) with
                | none => rfl
                | some q => rw [e2] at this; simp at this
              | some q =>
                rw [e1] at this
                cases e2 : evStore i h [] H' (.ref id off) (getF lk y) with
                | none => rw [e2] at this; simp at this
                | some q' =>
                  rw [e2] at this
                  simp only [Option.map_some, Option.some.injEq, Prod.mk.injEq] at this
                  simp only [Option.map_some, this.1, this.2]
            | _ => rfl
        · rfl
      · split
        · rfl
        · have : evVal P tt dsts o h lk H = evVal P tt dsts o h lk' H' := by
            rw [evVal_H (H := H) (H' := H') hH]
            exact evVal_congr hl
          rw [this]
  · rfl
end congr
end
end Go.Sx
