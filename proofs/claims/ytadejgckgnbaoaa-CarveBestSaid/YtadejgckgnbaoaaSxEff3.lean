/- Making and writing maps; copying into a row of one's own. -/
import Derived.Test.YtadejgckgnbaoaaSxEff2
namespace Go.Sx
open Go
set_option linter.unusedSimpArgs false
set_option linter.unusedVariables false

section
variable {P : Program} {tt : Tab} {bs : Bs} {Z : Nat → Prop} {w : World} {o : Oper} {a : Act} {v : V} {ps : List Prop} {N : Nat} {Γ : Ctx} {T T' : St} {H H' : List O}

theorem makeMap_sound (hW : InvW Γ H bs Z w) (hI : InvT N Γ T bs Z a w) {t : TypeId} (ho : o.op = .makeMap t none) : Does P N Γ o a w (.mp H.length) T (H ++ [.map []]) := by
  have hold : ∀ b, Z b → (w.alloc (.map #[] 0)).heap[b]? = w.heap[b]? := fun b hb => (Grow.alloc Z w _).heap b (hW.zlt b hb)
  have h1 := hW.push (.map #[] 0) (.map []) 0 ⟨#[], 0, heap_alloc w _, rfl, fun j x h => by simp at h⟩
  have h2 : InvT N Γ T (bs ++ [some (w.heap.size, 0)]) Z a (w.alloc (.map #[] 0)) := hI.mono bs_push (fun _ h => h) hold
  refine Does.val (c := .map (some w.heap.size)) ?_ h1 h2 (.mp _ _ 0 (bs_last hW _))
  simp only [execOp, ho, Instr.makeMap, Option.map_none, Sem.run_bind, run_newObj, Result.andThen_ok, Sem.run_pure]
  rfl

theorem setD_look {kd vd : D} : ∀ (kvs kvs' : List (D × D)) (i : Nat), setD kd vd kvs = some kvs' → ∃ r, lookD kd kvs i = some r ∧ (match r with
    | none => kvs' = kvs ++ [(kd, vd)]
    | some q => i ≤ q.1 ∧ q.1 - i < kvs.length ∧ kvs' = kvs.set (q.1 - i) (kd, vd)) := by
  intro kvs
  induction kvs with
  | nil => intro kvs' i h; simp [setD] at h; subst h; exact ⟨none, rfl, rfl⟩
  | cons p kvs ih =>
    intro kvs' i h
    unfold setD at h
    split at h
    · rename_i he
      simp at h; subst h
      refine ⟨some (i, p.2), by simp [lookD, he], Nat.le_refl _, by simp, by simp⟩
    · rename_i he
      simp only [Option.map_eq_some_iff] at h
      obtain ⟨l, hl, rfl⟩ := h
      obtain ⟨r, h1, h2⟩ := ih l (i + 1) hl
      refine ⟨r, by simp [lookD, he, h1], ?_⟩
      cases r with
      | none => simp only at h2 ⊢; rw [h2]; rfl
      | some q =>
        obtain ⟨g1, g2, g3⟩ := h2
        have e : q.1 - i = (q.1 - (i + 1)) + 1 := by omega
        refine ⟨by omega, by rw [e]; simp; omega, by rw [e, g3]; simp⟩
    · simp at h

theorem mapSet_sound (hT : Tab.ok P tt) (hW : InvW Γ H bs Z w) (hI : InvT N Γ T bs Z a w) {t : TypeId} {m k x : Operand} {i : TI} {h : Hint} (ho : o.op = .mapUpdate t m k x) (hi : tt.lookup t = some i)
    (he : evMapSet P i h T H (getV T m) (getV T k) (getV T x) = some (v, T', H', ps)) (hp : ∀ p ∈ ps, p) : Does P N Γ o a w v T' H' := by
  have hm := getV_sound hI m
  have hk := getV_sound hI k
  have hx := getV_sound hI x
  unfold evMapSet at he
  split at he
  · rename_i id kd vd e1 e2 e3
    rw [e1] at hm; rw [e2] at hk; rw [e3] at hx
    cases hk with | d _ _ hk =>
    cases hx with | d _ _ hx =>
    generalize hfm : a.eval m = fm at hm
    cases hm with | mp _ b q hb =>
    split at he
    · rename_i kvs kt et kvs' hH hkind
      split at he
      · rename_i hbk
        simp only [Option.some.injEq, Prod.mk.injEq] at he
        obtain ⟨rfl, rfl, rfl, rfl⟩ := he
        have hset : setD kd vd kvs = some kvs' := hp _ (List.mem_singleton.2 rfl)
        obtain ⟨d, g1, g2, _⟩ := (hT t i hi).kind
        rw [hkind] at g2
        have g2 : d = .map kt et := g2
        subst g2
        obtain ⟨es, q', k1, k2, k3⟩ := hW.objs id _ _ hH hb
        have hlt : b < w.heap.size := (Array.getElem?_eq_some_iff.1 k1).1
        have hget : (getObj b).run P w = .ok (.map es q') w := by simp [getObj, Sem.run, k1]
        have hsetO : ∀ ob, (setObj b ob).run P w = .ok () (w.putObj b ob) := fun ob => by simp [setObj, Sem.run, k1, World.putObj]
        have hck := checkKey_run (P := P) false hbk hk
        obtain ⟨r, h1, h2⟩ := setD_look kvs kvs' 0 hset
        obtain ⟨qv, f1, f2⟩ := findKey_run (P := P) (es := es.toList) hbk hk h1 (by simpa using k2) (fun j y hy => by
          obtain ⟨e, e1, e2, e3⟩ := k3 j y hy
          exact ⟨e, by simpa using e1, e2, e3⟩)
        have hz : ∀ (ob : Obj) b', Z b' → (w.putObj b ob).heap[b']? = w.heap[b']? := fun ob b' hb' => World.putObj_heap_other (fun e => by subst e; exact hW.disj id b' q hb hb')
        have fin : ∀ (es' : Array MapEntry) (q2 : Nat), (execOp a.eval o).run P w = .ok .skip (w.putObj b (.map es' q2)) → es'.size = kvs'.length → (∀ (j : Nat) (x : D × D), kvs'[j]? = some x → ∃ e, es'[j]? = some e ∧ RD Z w x.1 e.key ∧ RD Z w x.2 e.val) →
            Does P N Γ o a w .top T (H.set id (.map kvs')) := by
          intro es' q2 hrun hsz hrel
          refine Does.skip hrun (hW.write hb (fun b' hne => World.putObj_heap_other hne) World.putObj_size rfl rfl rfl ⟨es', q2, World.putObj_heap_same hlt, hsz, fun j x hx => ?_⟩ (fun _ _ _ => rfl)) (hI.mono (fun _ _ h => h) (fun _ h => h) (hz _))
          obtain ⟨e, c1, c2, c3⟩ := hrel j x hx
          exact ⟨e, c1, c2.mono (fun _ h => h) (hz _), c3.mono (fun _ h => h) (hz _)⟩
        cases r with
        | none =>
          cases qv with
          | some q => exact f2.elim
          | none =>
            simp only at h2
            subst h2
            refine fin (es.push { key := a.eval k, val := a.eval x, born := q' }) (q' + 1) ?_ (by simp [k2]) (fun j y hy => ?_)
            · simp only [execOp, ho, Instr.mapUpdate, Sem.run_bind, run_underlying g1, hfm, hget, Result.andThen_ok, hck, f1, hsetO, Sem.run_pure]
            · rw [List.getElem?_append] at hy
              rw [Array.getElem?_push]
              split at hy
              · rename_i hj
                rw [if_neg (by omega)]
                exact k3 j y hy
              · rename_i hj
                have hj0 : j - kvs.length = 0 := by
                  rcases Nat.eq_zero_or_pos (j - kvs.length) with h0 | h0
                  · exact h0
                  · rw [List.getElem?_eq_none (by simp; omega)] at hy; simp at hy
                rw [hj0] at hy
                simp at hy; subst hy
                rw [if_pos (by omega)]
                exact ⟨_, rfl, hk, hx⟩
        | some r =>
          cases qv with
          | none => exact f2.elim
          | some qv =>
            obtain ⟨f3, f4, f5, e, y, f6, f7, f8, f9, f10⟩ := f2
            obtain ⟨_, h3, h4⟩ := h2
            simp only [Nat.sub_zero] at h3 h4
            subst h4
            have hes : es[r.1]? = some e := by simpa using f6
            obtain ⟨hsame, hbits⟩ := key_same f8 hk f10
            have hstay : (Instr.keyThatStays (((es[qv.1]?).map (·.key)).getD (a.eval k)) (a.eval k)).run P w = .ok (a.eval k) w := by
              rw [f3, hes]
              simp only [Option.map_some, Option.getD_some, ← hsame]
              rw [← hsame] at hbits
              simp [Instr.keyThatStays, hbits]
            refine fin (es.modify qv.1 fun e => { e with key := a.eval k, val := a.eval x }) q' ?_ (by simp [k2]) (fun j y' hy => ?_)
            · simp only [execOp, ho, Instr.mapUpdate, Sem.run_bind, run_underlying g1, hfm, hget, Result.andThen_ok, hck, f1, hstay, hsetO, Sem.run_pure]
            · rw [f3, Array.getElem?_modify]
              rw [List.getElem?_set] at hy
              by_cases hj : r.1 = j
              · subst hj
                rw [if_pos rfl] at hy ⊢
                simp [h3] at hy; subst hy
                exact ⟨_, by rw [hes]; rfl, hk, hx⟩
              · rw [if_neg hj] at hy ⊢
                exact k3 j y' hy
      · simp at he
    · simp at he
  · simp at he

theorem copy_sound (hT : Tab.ok P tt) (hW : InvW Γ H bs Z w) (hI : InvT N Γ T bs Z a w) {c : Call} {s x : Operand} {t : TypeId} {rest : List TypeId} {i : TI} (ho : o.op = .call c) (hc : c.callee = .builtin .copy) (ha : c.args.toList = [s, x]) (hty : c.argTypes.toList = t :: rest) (hi : tt.lookup t = some i)
    (he : evCopy tt i T H (getV T s) (getV T x) = some (v, T', H', ps)) : Does P N Γ o a w v T' H' := by
  have hS := getV_sound hI s
  have hX := getV_sound hI x
  have hty' : c.argTypes[0]? = some t := by
    have : c.argTypes.toList[0]? = some t := by rw [hty]; rfl
    simpa using this
  have hargs : c.args = #[s, x] := by
    obtain ⟨callee, ⟨args⟩, tys⟩ := c
    simp at ha; subst ha; rfl
  unfold evCopy at he
  split at he
  · rename_i e id off n tg e' m cells hvs hvx
    rw [hvs] at hS; rw [hvx] at hX
    split at he
    · rename_i el xs hk hH
      simp only [Option.bind_eq_some_iff] at he
      obtain ⟨it, h1, he⟩ := he
      split at he
      · rename_i hcond
        simp only [Bool.and_eq_true, beq_iff_eq, Nat.beq_eq, Nat.ble_eq] at hcond
        obtain ⟨⟨⟨c1, c2⟩, c3⟩, c4⟩ := hcond
        simp only [Option.some.injEq, Prod.mk.injEq] at he
        obtain ⟨rfl, rfl, rfl, rfl⟩ := he
        obtain ⟨d, g1, g2, _⟩ := (hT t i hi).kind
        rw [hk] at g2
        have g2 : d = .slice el := g2
        subst g2
        have hrow : rowAt H id = some xs := by simp [rowAt, hH, O.row]
        -- what is read
        have hsrc : ∃ (srcC : List Value) (src : Value), a.eval x = src ∧ (Builtin.lenOf src).run P w = .ok m w ∧ RDL Z w (cells.take (min m n * e)) srcC ∧ (Builtin.firstCells it.size (min m n) src).run P w = .ok srcC.toArray w := by
          cases hX with | d _ _ hX =>
          generalize a.eval x = cx at hX
          cases hX with
          | list0 _ _ ad cap ht =>
            refine ⟨[], _, rfl, by simp [Builtin.lenOf], by simp; exact ⟨rfl, fun j x c h => by simp at h⟩, ?_⟩
            cases ad with
            | none => simp [Builtin.firstCells]
            | some ad => exact run_firstCells_some w _ _ ad _ _ [] (by simp) (by simp)
          | list _ _ _ _ ad cap f hn hl hz hcap ht hcell h1' hr =>
            have hle : min m n * e ≤ cells.length := by rw [c3]; exact Nat.mul_le_mul_right _ (Nat.min_le_left _ _)
            refine ⟨(List.range (min m n * e)).map f, _, rfl, by simp [Builtin.lenOf], ⟨by simp; omega, fun j x c hx hc => ?_⟩, ?_⟩
            · rw [List.getElem?_take] at hx
              split at hx
              · rename_i hj
                simp [hj] at hc
                subst hc
                exact ⟨h1' j (by omega), hr j x hx⟩
              · simp at hx
            · rw [c1]
              refine run_firstCells_some w e (min m n) ad _ _ _ (by simp) (fun j u hu => ?_)
              have hj : j < min m n * e := by simpa using (List.getElem?_eq_some_iff.1 hu).1
              simp [hj] at hu; subst hu
              exact hcell j (by omega)
        obtain ⟨srcC, src, hsv, hlen, hRC, hfirst⟩ := hsrc
        have hcl : srcC.length = min m n * e := by
          have := hRC.1
          rw [this, List.length_take, c3]
          exact Nat.min_eq_left (Nat.mul_le_mul_right _ (Nat.min_le_left _ _))
        have hexec : ∀ (dst : Value) (w' : World) (base : Option Addr) (cap : Nat), a.eval s = dst → dst = .slice base n cap → (match base with | some ad => (storeCells ad srcC).run P w = .ok () w' | none => w' = w) →
            (execOp a.eval o).run P w = .ok (.value (.int .i64 (min m n : Nat))) w' := by
          intro dst w' base cap h2 h3 h4
          subst h3
          have hmin : Nat.min m n = min m n := rfl
          cases base with
          | none =>
            simp only at h4; subst h4
            simp [execOp, ho, hc, hargs, resolve, invoke, builtin, Builtin.copy_, hty', run_underlying g1, h2, hsv, hlen, run_size hT h1, hfirst, hmin, goInt]
          | some ad =>
            simp only at h4
            simp [execOp, ho, hc, hargs, resolve, invoke, builtin, Builtin.copy_, hty', run_underlying g1, h2, hsv, hlen, run_size hT h1, hfirst, hmin, goInt, h4]
        generalize hes : a.eval s = sv at hS
        have hmap : (cells.take (min m n * e)).map V.d = (cells.take (min m n * e)).map .d := rfl
        cases hS with
        | sl0 _ _ hb =>
          have hx0 := hW.row0 hrow hb
          subst hx0
          have : putAt ([] : List V) 0 ((cells.take (min m 0 * e)).map .d) = [] := by simp [putAt]
          refine Does.val (hexec _ w none 0 hes rfl rfl) ?_ hI (RV.mki _ _)
          rw [this]
          have e1 : H.set id (.cells []) = H := by
            apply List.ext_getElem?
            intro j
            rw [List.getElem?_set]
            by_cases hj : id = j
            · subst hj; rw [if_pos rfl, if_pos (List.getElem?_eq_some_iff.1 hH).1, hH]
            · rw [if_neg hj]
          rw [e1]; exact hW
        | sl _ _ _ _ b k cap hb hcap hkk hmm =>
          obtain ⟨cs, ty, q1, q2, q3, q4⟩ := hW.row hrow hb
          have hfit : off + srcC.length ≤ cs.size := by
            rw [hcl]
            have : min m n * e ≤ n * e := Nat.mul_le_mul_right _ (Nat.min_le_right _ _)
            omega
          have hfit2 : off + (cells.take (min m n * e)).length ≤ xs.length := by
            rw [← hRC.1, hcl]
            have : min m n * e ≤ n * e := Nat.mul_le_mul_right _ (Nat.min_le_right _ _)
            omega
          have hst := run_storeCells_at P b off ty srcC 0 cs w q1 (by omega) hRC.ones
          simp only [Nat.add_zero] at hst
          have e2 : cs.toList.take off ++ srcC ++ cs.toList.drop (off + srcC.length) = putAt cs.toList off srcC := by
            rw [putAt_eq _ _ _ (by simp; omega)]
          rw [e2] at hst
          have hz : ∀ b', Z b' → (w.setRow b (putAt cs.toList off srcC).toArray).heap[b']? = w.heap[b']? := fun b' hb' => setRow_other w b b' _ (fun e => by subst e; exact hW.disj id b' k hb hb')
          have hsz : (putAt cs.toList off srcC).toArray.size = cs.size := by simp [putAt_length]
          refine Does.val (hexec _ _ (some ⟨b, off, none⟩) cap hes rfl hst) (hW.write hb (fun b' hne => setRow_other w b b' _ hne) (setRow_size _ _ _) rfl rfl rfl ?_ (fun _ _ _ => rfl)) (hI.mono (fun _ _ h => h) (fun _ h => h) hz) (RV.mki _ _)
          have hxl : (putAt xs off ((cells.take (min m n * e)).map V.d)).length = xs.length := putAt_length _ _ _
          have h5 := RVL.putAt (bs := bs) (Z := Z) (w := w) off q4 (hRC.toV (bs := bs))
          have hok : okO bs Z (w.setRow b (putAt cs.toList off srcC).toArray) (.cells (putAt xs off ((cells.take (min m n * e)).map V.d))) (some (b, (putAt cs.toList off srcC).toArray.size)) := by
            refine okO.ofL (setRow_heap w b cs _ ty _ q1) ?_ (by rw [hxl, hsz]; exact q2)
            have e3 : (putAt cs.toList off srcC).toArray.toList.take (putAt xs off ((cells.take (min m n * e)).map V.d)).length = putAt (cs.toList.take xs.length) off srcC := by
              rw [hxl, List.toList_toArray, putAt_eq _ _ _ (by simp; omega), putAt_eq _ _ _ (by simp; rw [hRC.1]; omega)]
              apply List.ext_getElem?
              intro j
              simp only [List.getElem?_take, List.append_assoc, List.getElem?_append, List.length_take, List.getElem?_drop]
              have hmm : min off cs.toList.length = off := by simp; omega
              have hm2 : min off (min xs.length cs.toList.length) = off := by simp; omega
              rw [hmm, hm2]
              have hsl : srcC.length = (cells.take (min m n * e)).length := hRC.1
              by_cases h6 : j < off
              · simp [h6, show j < xs.length by omega]
              · simp only [h6, if_false]
                by_cases h7 : j - off < srcC.length
                · simp [h7, show j < xs.length by omega]
                · simp only [h7, if_false]
                  by_cases h8 : j < xs.length
                  · rw [if_pos h8, if_pos (by omega)]
                  · rw [if_neg h8, if_neg (by omega)]
            rw [e3]
            exact h5.mono (fun _ _ h => h) (fun _ h => h) hz
          rw [hsz, q3] at hok
          exact hok
      · simp at he
    · simp at he
  · simp at he
end
end Go.Sx
