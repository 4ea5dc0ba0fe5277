/- Regions that draw their order, with operations in the body that make or write objects: one operation is sound. -/
import Derived.Test.YtadejgckgnbaoaaSxAny
namespace Go.Sx
open Go
set_option linter.unusedSimpArgs false
set_option linter.unusedVariables false

section
variable {P : Program} {tt : Tab} {N : Nat} {Γ : Ctx} {H H' : List O} {bs : Bs} {Z : Nat → Prop} {w : World} {a : Act} {lk : Nat → Option V} {o : Oper} {v : V} {T T' : St} {ps : List Prop}

theorem InvW.congrW {w' : World} (hW : InvW Γ H bs Z w) (h : w'.heap = w.heap) (h1 : w'.os = w.os) (h2 : w'.tape = w.tape) (h3 : w'.output = w.output) : InvW Γ H bs Z w' := by
  have hh : ∀ b : Nat, w'.heap[b]? = w.heap[b]? := fun b => by rw [h]
  constructor
  · exact hW.lenH
  · intro i o q ho hq; exact (hW.objs i o q ho hq).mono (fun _ _ h => h) (fun _ h => h) (fun b _ => hh b) (fun b k _ => hh b)
  · exact hW.nodup
  · exact hW.disj
  · intro i b k hb; rw [h]; exact hW.lt i b k hb
  · intro b hb; rw [h]; exact hW.zlt b hb
  · exact hW.z0
  · exact hW.fresh
  · exact hW.zfresh
  · rw [h]; exact hW.size
  · intro b hb hB; rw [hh]; exact hW.frame b hb hB
  · rw [h1]; exact hW.os
  · rw [h2]; exact hW.tape
  · rw [h3]; exact hW.output
  · exact hW.pin

theorem InvF.exT (hI : InvF N Γ lk bs Z a w) : ∃ T : St, (fun x => T.lookup x) = lk ∧ InvT N Γ T bs Z a w := by
  let T : St := (List.range N).filterMap fun x => (lk x).map fun v => (x, v)
  have hl : ∀ (ns : List Nat) (x : Nat), (ns.filterMap fun x => (lk x).map fun v => (x, v)).lookup x = if x ∈ ns then lk x else none := by
    intro ns x
    induction ns with
    | nil => simp
    | cons n ns ih =>
      rw [List.filterMap_cons]
      cases hn : lk n with
      | none =>
        simp only [Option.map_none]
        rw [ih]
        by_cases hx : x = n
        · subst hx; simp [hn]
        · simp [hx]
      | some v =>
        simp only [Option.map_some, List.lookup_cons]
        by_cases hx : x = n
        · subst hx; simp [hn]
        · have : (x == n) = false := by rw [beq_eq_false_iff_ne]; exact hx
          rw [this, ih]; simp [hx]
  have hlk : (fun x => T.lookup x) = lk := by
    funext x
    rw [hl]
    split
    · rfl
    · rename_i h
      cases hx : lk x with
      | none => rfl
      | some v => exact absurd (List.mem_range.2 (hI.rel x v hx).1) h
  refine ⟨T, hlk, hI.size, hI.defers, fun i x hx => ?_⟩
  simp only [T, List.mem_filterMap, Option.map_eq_some_iff, Prod.mk.injEq] at hx
  obtain ⟨k, _, v, hv, rfl, rfl⟩ := hx
  exact hI.rel k v hv

theorem updW_dst (lk : Nat → Option V) (d : Option Tmp) (v : V) : updW lk (dstW d v) = upd lk d v := by
  funext x
  cases d with
  | none => simp [updW, dstW, upd]
  | some d =>
    simp only [updW, dstW, upd, List.lookup_cons, List.lookup_nil]
    by_cases hx : x = d
    · subst hx; simp
    · have : (x == d) = false := by rw [beq_eq_false_iff_ne]; exact hx
      rw [this]; simp [show ¬ d = x from fun e => hx e.symm]

theorem cells_ids {vs : List V} (h : v.cells = some vs) : ∀ u ∈ vs, ∀ i ∈ u.ids, i ∈ v.ids := by
  intro u hu i hi
  cases v with
  | agg cs => simp [V.cells] at h; subst h; simp only [V.ids]; exact idsL_mem hu i hi
  | d x =>
    cases x with
    | agg ds =>
      simp [V.cells] at h; subst h
      obtain ⟨y, _, rfl⟩ := List.mem_map.1 hu
      simp [V.ids] at hi
    | _ => simp [V.cells] at h; subst h; simp at hu; subst hu; simpa using hi
  | top => simp [V.cells] at h
  | when => simp [V.cells] at h
  | tup => simp [V.cells] at h
  | _ => simp [V.cells] at h; subst h; simp at hu; subst hu; simpa using hi

/-- A reserved number gets its row. -/
theorem fill_row (hW : InvW Γ H bs Z w) (hI : InvF N Γ lk bs Z a w) {r : Nat} (hr : isRow0 H[r]? = true) (hlk : ∀ x v, lk x = some v → r ∉ v.ids) (hH : ∀ (i : Nat) o, H[i]? = some o → r ∉ o.ids) {vs : List V} {cs : Array Value} (t : TypeId)
    (hv : RVL bs Z w vs cs.toList) (hvs : ∀ u ∈ vs, r ∉ u.ids) :
    InvW Γ (H.set r (.cells vs)) (bs.set r (some (w.heap.size, cs.size))) Z (w.alloc (.cells cs t)) ∧ InvF N Γ lk (bs.set r (some (w.heap.size, cs.size))) Z a (w.alloc (.cells cs t)) := by
  have hold : ∀ b, Z b → (w.alloc (.cells cs t)).heap[b]? = w.heap[b]? := fun b hb => (Grow.alloc Z w _).heap b (hW.zlt b hb)
  have hset : ∀ (i : Nat) (o : Option (Nat × Nat)), i ≠ r → bs[i]? = some o → (bs.set r (some (w.heap.size, cs.size)))[i]? = some o := by
    intro i o hi h; rw [List.getElem?_set, if_neg (fun e => hi e.symm)]; exact h
  have hl : vs.length = cs.size := by have := hv.1; simp at this; omega
  have hrl : r < H.length := by
    unfold isRow0 at hr
    split at hr
    · rename_i e; exact (List.getElem?_eq_some_iff.1 e).1
    · simp at hr
  have hdat : ∀ o, H[r]? = some o → o.isData = true := by
    intro o ho
    rw [ho] at hr
    unfold isRow0 at hr
    split at hr
    · rename_i e; simp at e; subst e; rfl
    · simp at hr
  have hv' : RVL (bs.set r (some (w.heap.size, cs.size))) Z (w.alloc (.cells cs t)) vs cs.toList := by
    refine ⟨hv.1, fun j x c hx hc => ⟨(hv.2 j x c hx hc).1, ((hv.2 j x c hx hc).2.mono (fun _ _ h => h) (fun _ h => h) hold).keep (fun i hi o ho => hset i o (fun e => ?_) ho)⟩⟩
    subst e
    exact hvs x (List.mem_of_getElem? hx) hi
  have hn : okO (bs.set r (some (w.heap.size, cs.size))) Z (w.alloc (.cells cs t)) (.cells vs) (some (w.heap.size, cs.size)) := by
    refine okO.ofL (heap_alloc w _) ?_ (by omega)
    rw [List.take_of_length_le (by simp; omega)]
    exact hv'
  have hmv := InvW.move hW (id := r) (by rw [hW.lenH]; exact hrl) (.cells cs t) (.cells vs) cs.size (hn.mono (w' := w.drew.alloc (.cells cs t)) (fun _ _ h => h) (fun _ h => h) (fun _ _ => rfl) (fun _ _ _ => rfl)) hdat
  have honly : onlyH (· != r) H = H := by
    unfold onlyH
    conv => rhs; rw [← List.map_id H]
    refine List.map_congr_left fun o ho => ?_
    obtain ⟨j, hj⟩ := List.mem_iff_getElem?.1 ho
    rw [onlyO_ids _ _ (fun i hi => by
      have : i ≠ r := fun e => by subst e; exact hH j o hj hi
      simpa using this)]
    rfl
  rw [honly] at hmv
  refine ⟨hmv.congrW rfl rfl rfl rfl, hI.size, hI.defers.mono (fun _ h => h) hold, fun i x hx => ⟨(hI.rel i x hx).1, ((hI.rel i x hx).2.mono (fun _ _ h => h) (fun _ h => h) hold).keep (fun j hj o ho => hset j o (fun e => ?_) ho)⟩⟩
  subst e
  exact hlk i x hx hj

theorem evStore_set {i : TI} {h : Hint} {id off : Nat} {y : V} (he : evStore i h T H (.ref id off) y = some (v, T', H', ps)) : v = .top ∧ T' = T ∧ id < H.length ∧ ∃ n, H' = H.set id n := by
  unfold evStore at he
  split at he
  · rename_i id' off' heq
    simp at heq
    obtain ⟨rfl, rfl⟩ := heq
    split at he
    · rename_i hH hv
      have hlt := (List.getElem?_eq_some_iff.1 hH).1
      split at he
      · split at he
        · simp at he
          obtain ⟨rfl, rfl, rfl, rfl⟩ := he
          exact ⟨rfl, rfl, hlt, _, rfl⟩
        · split at he
          · simp at he
            obtain ⟨rfl, rfl, rfl, rfl⟩ := he
            exact ⟨rfl, rfl, hlt, _, rfl⟩
          · simp at he
      · simp at he
    · rename_i hH hv
      have hlt := (List.getElem?_eq_some_iff.1 hH).1
      split at he
      · split at he
        · simp at he
          obtain ⟨rfl, rfl, rfl, rfl⟩ := he
          exact ⟨rfl, rfl, hlt, _, rfl⟩
        · simp at he
      · simp at he
    · rename_i hH hv
      have hlt := (List.getElem?_eq_some_iff.1 hH).1
      split at he
      · split at he
        · simp at he
          obtain ⟨rfl, rfl, rfl, rfl⟩ := he
          exact ⟨rfl, rfl, hlt, _, rfl⟩
        · simp at he
      · simp at he
    · simp at he
  · rename_i hh; exact (hh _ _ rfl).elim

theorem evStore_T {i : TI} {h : Hint} {x y : V} (T : St) : evStore i h T H x y = (evStore i h [] H x y).map fun q => (q.1, T, q.2.2.1, q.2.2.2) := by
  unfold evStore
  split
  · split
    · split
      · split
        · rfl
        · split <;> rfl
      · rfl
    · split
      · split <;> rfl
      · rfl
    · split
      · split <;> rfl
      · rfl
    · rfl
  · rfl

theorem stay_all {is : List Nat} {Hs : List O} (h : Hs.all (fun o => !o.isData) = true) : ∀ k, stayIds is Hs k = true := by
  induction is generalizing Hs with
  | nil => intro k; rfl
  | cons i is ih =>
    intro k
    cases Hs with
    | nil => rfl
    | cons o Hs =>
      simp only [List.all_cons, Bool.and_eq_true] at h
      unfold stayIds
      split
      · exact h.1
      · exact ih h.2 k

theorem zip_lookup : ∀ (is : List Nat) (olds : List O) (n i : Nat), (is.zip olds).lookup i = (inIds is n i).bind fun j => olds[j - n]? := by
  intro is
  induction is with
  | nil => intro olds n i; rfl
  | cons k is ih =>
    intro olds n i
    cases olds with
    | nil => simp
    | cons o olds =>
      simp only [List.zip_cons_cons, List.lookup_cons, inIds]
      by_cases h : k = i
      · subst h; simp
      · have h1 : (i == k) = false := by rw [beq_eq_false_iff_ne]; exact fun e => h e.symm
        have h2 : (k == i) = false := by rw [beq_eq_false_iff_ne]; exact h
        rw [h1, h2]
        simp only [Bool.false_eq_true, if_false]
        rw [ih olds (n + 1) i]
        cases hj : inIds is (n + 1) i with
        | none => rfl
        | some j =>
          have := (inIds_some is (n + 1) i j hj).1
          simp only [Option.bind_some]
          rw [show j - n = (j - (n + 1)) + 1 by omega, List.getElem?_cons_succ]

/-- One operation of the body is sound. -/
theorem evB_sound (hT : Tab.ok P tt) {ops : Array Oper} {h : Hint} {ro : Option Nat} {sw : List (Nat × Option V)} {ow : List (Nat × O)} {next : Act → World → Prop} {Q : Exit → Act → World → Prop}
    (he : evB P tt N (ops.toList.map (·.dst)) o h lk H = some (sw, ow, ps)) (hp : ∀ p ∈ ps, p) (hW : InvW Γ H bs Z w) (hI : InvF N Γ lk bs Z a w)
    (hres : ∀ r, resOf h = some r → (∀ x v, lk x = some v → r ∉ v.ids) ∧ (∀ (i : Nat) o, H[i]? = some o → r ∉ o.ids))
    (hn : ∀ a' bs' Z' w', InvW Γ (setH H ow) bs' Z' w' → InvF N Γ (updW lk sw) bs' Z' a' w' → next a' w') :
    if Region.wanted o (yielded ops a.tmps) then o.wpIn (wideAt ro) 0 P a w next Q else next (a.put o.dst undef) w := by
  have hwant : o.guard.isNone = true → Region.wanted o (yielded ops a.tmps) = true := by
    intro hg
    have : o.guard = none := by simpa using hg
    simp [Region.wanted, this]
  unfold evB at he
  split at he
  · rename_i hd
    split at he
    · -- a row in a reserved number
      rename_i r
      split at he
      · rename_i hc
        simp only [Bool.and_eq_true] at hc
        obtain ⟨hlk, hH⟩ := hres r rfl
        rw [if_pos (hwant hc.2)]
        split at he
        · rename_i t ho
          simp only [Option.map_eq_some_iff, Prod.mk.injEq] at he
          obtain ⟨i, hi, rfl, rfl, rfl⟩ := he
          obtain ⟨z, hz1, hz2⟩ := run_zero hT hi w
          have hz := zero_rel hT (bs := bs) (Z := Z) (w := w) hi z hz2
          obtain ⟨h1, h2⟩ := fill_row hW hI hc.1 hlk hH t hz (fun u hu => by
            obtain ⟨y, _, rfl⟩ := List.mem_map.1 hu
            simp [V.ids])
          refine wp_to_in (fun c hc => by rw [ho] at hc; cases hc) ro ?_
          unfold Oper.wp
          have hrun : (execOp a.eval o).run P w = .ok (.value (.pointer (some ⟨w.heap.size, 0, none⟩))) (w.alloc (.cells z.cells t)) := by
            simp only [execOp, ho, Instr.alloc, Sem.run_bind, hz1, Result.andThen_ok, newVar, newRow, run_newObj, Sem.run_pure]
            rfl
          rw [hrun]
          rw [← setH_one] at h1
          refine hn _ _ _ _ h1 ?_
          rw [updW_dst]
          refine h2.put hd (.ref r 0 w.heap.size z.cells.size ?_)
          rw [List.getElem?_set, if_pos rfl, if_pos (by
            rw [hW.lenH]
            have := hc.1
            unfold isRow0 at this
            split at this
            · rename_i e; exact (List.getElem?_eq_some_iff.1 e).1
            · simp at this)]
        · rename_i t x ho
          simp only [Option.map_eq_some_iff, Prod.mk.injEq] at he
          obtain ⟨vs, hv, rfl, rfl, rfl⟩ := he
          have hr := (hI.get x).one hv
          have hxr : r ∉ (getF lk x).ids := by
            cases x with
            | tmp s =>
              simp only [getF]
              cases hs : lk s with
              | none => simp [V.ids]
              | some u => simpa using hlk s u hs
            | const c => simp only [getF, constV]; split <;> simp [V.ids]
            | func f => simp [getF, V.ids, V.idsL]
            | global g => simp [getF, V.ids]
          obtain ⟨h1, h2⟩ := fill_row hW hI hc.1 hlk hH t hr (fun u hu hi => hxr (cells_ids hv u hu r hi))
          refine wp_to_in (fun c hc => by rw [ho] at hc; cases hc) ro ?_
          unfold Oper.wp
          have hrun : (execOp a.eval o).run P w = .ok (.value (.pointer (some ⟨w.heap.size, 0, none⟩))) (w.alloc (.cells (a.eval x).cells t)) := by
            simp only [execOp, ho, Instr.box, Sem.run_bind, Result.andThen_ok, newVar, newRow, run_newObj, Sem.run_pure]
            rfl
          rw [hrun]
          rw [← setH_one] at h1
          refine hn _ _ _ _ h1 ?_
          rw [updW_dst]
          refine h2.put hd (.ref r 0 w.heap.size (a.eval x).cells.size ?_)
          rw [List.getElem?_set, if_pos rfl, if_pos (by
            rw [hW.lenH]
            have := hc.1
            unfold isRow0 at this
            split at this
            · rename_i e; exact (List.getElem?_eq_some_iff.1 e).1
            · simp at this)]
        · simp at he
      · simp at he
    · -- a call with objects
      rename_i ids r Hc
      split at he
      · rename_i hg
        simp only [Bool.and_eq_true] at hg
        rw [if_pos (hwant hg.1)]
        split at he
        · rename_i c ho
          split at he
          · rename_i f hc
            split at he
            · rename_i Hs olds hs hol
              split at he
              · rename_i v qs hval
                split at he
                · rename_i hcond
                  simp only [Bool.and_eq_true] at hcond
                  simp only [Option.some.injEq, Prod.mk.injEq] at he
                  obtain ⟨rfl, rfl, rfl⟩ := he
                  have hlen : Hc.length = ids.length := by simpa using hcond.2
                  have hev : ∃ T2, evHCall P ids r Hc [] H (getF lk f) (c.args.toList.map (getF lk)) = some (v, T2, mergeH (ids.map (·.1)) olds (stayIds (ids.map (·.1)) Hs) 0 H, qs) := by
                    unfold evHCall
                    rw [if_pos hg.2, hs, hol]
                    have hdrop : (Hc.drop ids.length).map (O.re (outIds (ids.map (·.1)) H.length)) = [] := by rw [List.drop_of_length_le (by omega)]; rfl
                    unfold hcVal at hval
                    split at hval
                    · rename_i e; try rw [e]
                      simp only [Option.some.injEq, Prod.mk.injEq] at hval
                      obtain ⟨rfl, rfl⟩ := hval
                      simp only [hdrop, List.append_nil]
                      exact ⟨_, rfl⟩
                    · rename_i e; try rw [e]
                      simp only [Option.some.injEq, Prod.mk.injEq] at hval
                      obtain ⟨rfl, rfl⟩ := hval
                      simp only [hdrop, List.append_nil]
                      exact ⟨_, rfl⟩
                    · simp at hval
                  obtain ⟨T2, hev⟩ := hev
                  refine hcall_run hW ho hc (hI.get f) (by simp) ?_ hev hp ro next Q ?_
                  · intro j y d hy hd'
                    rw [List.getElem?_map, Option.map_eq_some_iff] at hy
                    obtain ⟨u, hu, rfl⟩ := hy
                    rw [Array.getElem?_map, Option.map_eq_some_iff] at hd'
                    obtain ⟨u', hu', rfl⟩ := hd'
                    rw [Array.getElem?_toList, hu'] at hu
                    simp at hu; subst hu
                    exact hI.get _
                  · intro Hs' c' bs2 Z' w' hs' _ h1 h2 h3 h4 h5
                    rw [hs] at hs'; simp at hs'; subst hs'
                    have hH2 : setH H ((ids.map (·.1)).zip olds) = mergeH (ids.map (·.1)) olds (stayIds (ids.map (·.1)) Hs) 0 H := by
                      apply List.ext_getElem?
                      intro i
                      rw [setH_get, mergeH_get, Nat.zero_add, zip_lookup (ids.map (·.1)) olds 0 i]
                      cases hin : inIds (ids.map (·.1)) 0 i with
                      | none =>
                        cases hHi : H[i]? with
                        | none => rfl
                        | some o => simp only [Option.map_some, Option.bind_none, Option.getD_none]; rw [onlyO_ids _ _ (fun j _ => stay_all hcond.1 j)]
                      | some j =>
                        obtain ⟨_, hj⟩ := inIds_some _ _ _ _ hin
                        simp only [Nat.sub_zero] at hj
                        obtain ⟨hol1, _⟩ := oldH_get hol
                        have hjl : j < olds.length := by rw [hol1]; have := (List.getElem?_eq_some_iff.1 hj).1; simpa using this
                        cases hHi : H[i]? with
                        | none => rfl
                        | some o => simp [List.getElem?_eq_getElem hjl]
                    rw [← hH2] at h1
                    refine hn _ _ _ _ h1 ?_
                    rw [updW_dst]
                    exact (hI.mono (fun i o hio => h3 i o (stay_all hcond.1 i) hio) h4 h5).put hd h2
                · simp at he
              · simp at he
            · simp at he
          · simp at he
        · simp at he
      · simp at he
    · -- a store
      split at he
      · rename_i t x y ho
        split at he
        · rename_i hg
          rw [if_pos (hwant hg)]
          split at he
          · rename_i i id off hi hx
            simp only [Option.map_eq_some_iff, Prod.mk.injEq] at he
            obtain ⟨⟨v, T2, H2, qs⟩, hev, rfl, rfl, rfl⟩ := he
            obtain ⟨T, hlkT, hIT⟩ := hI.exT
            have hgv : getV T = getF lk := by rw [← hlkT]; exact (getF_lookup T).symm
            obtain ⟨rfl, rfl, hidl, n, rfl⟩ := evStore_set hev
            have hev' : evStore i h T H (getV T x) (getV T y) = some (.top, T, H.set id n, qs) := by
              rw [evStore_T, hgv, hx, hev]; rfl
            refine wp_to_in (fun c hc => by rw [ho] at hc; cases hc) ro (store_sound hT hW hIT ho hi hev' hp next Q ?_)
            intro c bs' Z' w' hW' hI' hv
            have e : setH H [(id, (H.set id n).getD id default)] = H.set id n := by
              rw [setH_one]
              congr 1
              simp [hidl]
            refine hn _ bs' Z' w' (by rw [e]; exact hW') ?_
            rw [updW_dst, ← hlkT]
            exact (hI'.toF).put hd hv
          · simp at he
        · simp at he
      · -- whatever only reads
        split at he
        · simp at he
        · simp only [Option.map_eq_some_iff, Prod.mk.injEq] at he
          obtain ⟨⟨v, qs⟩, hev, rfl, rfl, rfl⟩ := he
          refine evVal_sound hT hev hp hW hI ?_
          intro c w' Z' hg hv
          refine hn _ bs Z' w' (by rw [setH_nil]; exact hW.grow hg) ?_
          rw [updW_dst]
          exact (hI.mono (fun _ _ h => h) hg.zs (fun b hb => hg.heap b (hW.zlt b hb))).put hd hv
  · simp at he
end
end Go.Sx
