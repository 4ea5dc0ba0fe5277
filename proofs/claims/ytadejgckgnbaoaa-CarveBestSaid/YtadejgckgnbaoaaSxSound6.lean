/- Soundness of the evaluator: calls; all together. -/
import Derived.Test.YtadejgckgnbaoaaSxApp
namespace Go.Sx
open Go
set_option linter.unusedSimpArgs false
set_option linter.unusedVariables false

section call
variable {P : Program} {tt : Tab} {bs : Bs} {Z : Nat → Prop} {w : World} {o : Oper} {a : Act} {v : V} {ps : List Prop}

theorem run_callFunc {f : FuncId} (h : FnOk P f) (args : Array Value) : (callFunc f args).run P w = .ok (.enter f args) w := by
  obtain ⟨fn, h1, h2, h3⟩ := h
  simp at h2
  have h4 : fn.body ≠ none := by intro h; simp [h] at h3
  simp [callFunc, h1, h2, h4]

theorem run_enter {c : Call} {x : Operand} {f : FuncId} (ho : o.op = .call c) (hc : c.callee = .value x) (hx : a.eval x = .func (.func f) #[] #[]) (hf : FnOk P f) :
    (execOp a.eval o).run P w = .ok (.enter f (c.args.map a.eval)) w := by
  simp [execOp, ho, resolve, hc, hx, Deferred.ofValue, invoke, run_callFunc hf]

theorem RV.func {f : Fn} {c : Value} (h : RV bs Z w (.fn f [] []) c) : c = .func f #[] #[] := by
  cases h with
  | fn _ _ _ fs cs g k hl hl' hf hk hr hr' =>
    have e1 : fs = #[] := Array.eq_empty_of_size_eq_zero (by simpa using hl)
    have e2 : cs = #[] := Array.eq_empty_of_size_eq_zero (by simpa using hl')
    rw [e1, e2]

theorem Yields.enter {f : FuncId} {args : Array Value} (h : (execOp a.eval o).run P w = .ok (.enter f args) w)
    (hc : Calls P f args w (fun e w' => ∃ c Z', e = .returned c ∧ Grow Z w Z' w' ∧ RV bs Z' w' v c)) : Yields P bs Z w o a v := by
  intro next Q hn
  unfold Oper.wp
  rw [h]
  refine Calls.mono hc ?_
  rintro e w' ⟨c, Z', rfl, hg, hv⟩
  exact hn c w' Z' hg hv

theorem flat_D {x : D} {c : Value} {Z' : Nat → Prop} {w' : World} (h : RD Z w x c) (hf : x.flat = true) : RD Z' w' x c := by
  cases h <;> simp [D.flat] at hf
  exact .v _ (by assumption)

theorem flat_V {x : V} {c : Value} {bs' : Bs} {Z' : Nat → Prop} {w' : World} (h : RV bs Z w x c) (hf : x.flat = true) : RV bs' Z' w' x c := by
  cases h with
  | d x c h =>
    cases h with
    | v x hx => exact .d _ _ (.v _ hx)
    | agg cells cs f hl hf' h1 hr =>
      refine .d _ _ (.agg cells cs f hl hf' h1 (fun j y hy => ?_))
      simp [V.flat] at hf
      exact flat_D (hr j y hy) (hf y (List.mem_of_getElem? hy))
    | _ => simp [V.flat] at hf
  | _ => simp [V.flat] at hf

theorem flat_R {x : V} {c : Value} {bs' : Bs} {Z' : Nat → Prop} {w' : World} (h : RV bs Z w x c) (hf : flatR x = true) : RV bs' Z' w' x c := by
  cases h with
  | tup vs cs f hl hf' hr =>
    simp [flatR] at hf
    exact .tup vs cs f hl hf' (fun j y hy => flat_V (hr j y hy) (hf y (List.mem_of_getElem? hy)))
  | top c => simp [flatR, V.flat] at hf
  | d x c h => exact flat_V (bs := bs) (.d x c h) hf
  | ref => simp [flatR, V.flat] at hf
  | sl => simp [flatR, V.flat] at hf
  | sl0 => simp [flatR, V.flat] at hf
  | rop => simp [flatR, V.flat] at hf
  | mp => simp [flatR, V.flat] at hf
  | yld => simp [flatR, V.flat] at hf
  | fn => simp [flatR, V.flat] at hf
  | agg => simp [flatR, V.flat] at hf
  | when => simp [flatR, V.flat] at hf

/-- What is lent reads as frozen as long as nobody writes it. -/
def Zl (Z : Nat → Prop) (bs : Bs) (b : Nat) : Prop := Z b ∨ ∃ k, some (b, k) ∈ bs

theorem RD.lent {x : D} {c : Value} (h : RD Z w x c) (bs : Bs) : RD (Zl Z bs) w x c := h.mono (fun _ h => .inl h) (fun _ _ => rfl)

theorem argOk_sound {Γ : Ctx} {H : List O} (hW : InvW Γ H bs Z w) {x : V} {y : D} {c : Value} (h : RV bs Z w x c) (hk : argOk H x y) : RD (Zl Z bs) w y c := by
  unfold argOk at hk
  split at hk
  · subst hk
    cases h with | d _ _ h => exact h.lent bs
  · rename_i e' id off n e m ds
    obtain ⟨rfl, rfl, hl, xs, hH, ht, hle⟩ := hk
    cases h with
    | sl0 _ _ hb =>
      have : ds = [] := List.eq_nil_of_length_eq_zero (by simpa using hl)
      subst this
      exact .list0 _ _ _ _ (by simp)
    | sl _ _ _ _ b k cap hb hcap =>
      obtain ⟨cs, ty, g1, g2, _, g3⟩ := hW.row hH hb
      have g4 := (g3.drop off).take (m * e')
      rw [ht] at g4
      have g5 := g4.toD
      by_cases h0 : m = 0
      · subst h0
        have : ds = [] := List.eq_nil_of_length_eq_zero (by simpa using hl)
        subst this
        exact .list0 _ _ _ _ (by simp)
      · have hlen : (((cs.toList.take xs.length).drop off).take (m * e')).length = m * e' := by rw [g5.1, hl]
        refine .list false e' m ds _ cap (fun j => (((cs.toList.take xs.length).drop off).take (m * e')).getD j undef) (by omega) hl (.inr ⟨k, List.mem_of_getElem? hb⟩) hcap (by simp) (fun j hj => ?_) (fun j hj => ?_) (fun j z hz => ?_)
        · rw [cell_at g1]
          have hj' : j < m * e' := by omega
          have : (((cs.toList.take xs.length).drop off).take (m * e'))[j]? = cs[off + j]? := by
            rw [List.getElem?_take, if_pos hj', List.getElem?_drop, List.getElem?_take, if_pos (by omega)]
            simp
          rw [List.getD_eq_getElem?_getD, this]
          simp [show off + j < cs.size by omega]
        · have hj' : j < (((cs.toList.take xs.length).drop off).take (m * e')).length := by omega
          have := (g5.2 j ds[j] _ (List.getElem?_eq_getElem hj) (List.getElem?_eq_getElem hj')).1
          rwa [List.getD_eq_getElem?_getD, List.getElem?_eq_getElem hj']
        · have hj : j < ds.length := (List.getElem?_eq_some_iff.1 hz).1
          have hj' : j < (((cs.toList.take xs.length).drop off).take (m * e')).length := by omega
          have := (g5.2 j z _ hz (List.getElem?_eq_getElem hj')).2
          rw [List.getD_eq_getElem?_getD, List.getElem?_eq_getElem hj']
          exact this.lent bs
  · exact hk.elim

theorem argsOk_at {H : List O} : ∀ {vs : List V} {ds : List D}, argsOk H vs ds → vs.length = ds.length ∧ ∀ (j : Nat) v d, vs[j]? = some v → ds[j]? = some d → argOk H v d := by
  intro vs
  induction vs with
  | nil => intro ds h; cases ds with
    | nil => exact ⟨rfl, fun j v d h => by simp at h⟩
    | cons => exact h.elim
  | cons v vs ih =>
    intro ds h
    cases ds with
    | nil => exact h.elim
    | cons d ds =>
      obtain ⟨h1, h2⟩ := ih h.2
      refine ⟨by simp [h1], fun j v' d' hv hd => ?_⟩
      cases j with
      | zero => simp at hv hd; subst hv; subst hd; exact h.1
      | succ j => simp at hv hd; exact h2 j _ _ hv hd

theorem call_sound {Γ : Ctx} {H : List O} (hW : InvW Γ H bs Z w) {c : Call} {x : Operand} {get : Operand → V} {h : Hint} (ho : o.op = .call c) (hc : c.callee = .value x) (hx : RV bs Z w (get x) (a.eval x))
    (ha : ∀ y ∈ c.args, RV bs Z w (get y) (a.eval y)) (he : evCall P h H (get x) (c.args.toList.map get) = some (v, ps)) (hp : ∀ p ∈ ps, p) : Yields P bs Z w o a v := by
  unfold evCall at he
  split at he
  · rename_i f ds r hfn
    rw [hfn] at hx
    have ef := hx.func
    split at he
    · rename_i ds' hall
      simp only [Option.some.injEq, Prod.mk.injEq] at he
      obtain ⟨rfl, rfl⟩ := he
      have hpc : PCall P f ds' r := hp _ (List.mem_singleton.2 rfl)
      refine Yields.enter (run_enter ho hc ef hpc.ok) ?_
      have hmap := allD_map hall
      refine (hpc.run Z w (c.args.map a.eval) hW.zlt ?_ ?_).mono ?_
      · have := congrArg List.length hmap; simpa using this
      · intro j y k hy hk
        have : (c.args.toList.map get)[j]? = some (.d y) := by rw [hmap]; simp [hy]
        obtain ⟨k', hk', hr⟩ := map_get ha j _ this
        rw [hk] at hk'; simp at hk'; subst hk'
        cases hr with | d _ _ h => exact h
      · rintro e w' ⟨k, Z', he, hg, hr⟩
        exact ⟨k, Z', he, hg, hr.mono (fun i o h => by simp at h) (fun _ h => h) (fun _ _ => rfl)⟩
    · split at he
      · rename_i hflat
        simp only [Option.some.injEq, Prod.mk.injEq] at he
        obtain ⟨rfl, rfl⟩ := he
        have hao : argsOk H (c.args.toList.map get) ds := hp _ (by simp)
        have hpc : PCall P f ds r := hp _ (by simp)
        obtain ⟨hlen, hat⟩ := argsOk_at hao
        refine Yields.enter (run_enter ho hc ef hpc.ok) ?_
        refine (hpc.run (Zl Z bs) w (c.args.map a.eval) ?_ ?_ ?_).mono ?_
        · intro b hb
          rcases hb with hb | hb
          · exact hW.zlt b hb
          · obtain ⟨k, hb⟩ := hb
            obtain ⟨j, hj⟩ := List.mem_iff_getElem?.1 hb
            exact hW.lt j b k hj
        · simpa using hlen
        · intro j y k hy hk
          have hj : j < (c.args.toList.map get).length := by rw [hlen]; exact (List.getElem?_eq_some_iff.1 hy).1
          obtain ⟨k', hk', hr⟩ := map_get ha j _ (List.getElem?_eq_getElem hj)
          rw [hk] at hk'; simp at hk'; subst hk'
          exact argOk_sound hW hr (hat j _ y (List.getElem?_eq_getElem hj) hy)
        · rintro e w' ⟨k, Z', he, hg, hr⟩
          refine ⟨k, fun b => Z b ∨ (w.heap.size ≤ b ∧ b < w'.heap.size), he, ⟨hg.os, hg.tape, hg.output, hg.size, hg.heap, fun b h => .inl h, fun b h => h⟩, flat_R hr hflat⟩
      · simp at he
  · rename_i f first cap ds r _ hfn
    split at he
    · rename_i ds' hall
      simp only [Option.some.injEq, Prod.mk.injEq] at he
      obtain ⟨rfl, rfl⟩ := he
      have hpc : PCall P f ds' r := hp _ (List.mem_singleton.2 rfl)
      rw [hfn] at hx
      generalize hfv : a.eval x = fv at hx
      cases hx with
      | fn _ _ _ fs cs g k hl hl' hf hk hr hr' =>
        have hrun : (execOp a.eval o).run P w = .ok (.enter f (fs ++ c.args.map a.eval ++ cs)) w := by
          simp [execOp, ho, resolve, hc, hfv, Deferred.ofValue, invoke, run_callFunc hpc.ok]
        refine Yields.enter hrun ?_
        have hmap := allD_map hall
        refine (hpc.run Z w _ hW.zlt ?_ ?_).mono ?_
        · have := congrArg List.length hmap; simp at this; simp [hl, hl']; omega
        · intro j y d hy hd
          have hv : (first ++ c.args.toList.map get ++ cap)[j]? = some (.d y) := by rw [hmap]; simp [hy]
          have hrv : RV bs Z w (.d y) d := by
            simp only [List.append_assoc, List.getElem?_append, List.length_map] at hv
            rw [Array.getElem?_append, Array.getElem?_append] at hd
            simp only [Array.size_append, Array.size_map] at hd
            split at hv
            · rename_i h1
              rw [if_pos (by omega), if_pos (by omega), hf j (by omega)] at hd
              simp at hd; subst hd
              exact hr j _ hv
            · rename_i h1
              split at hv
              · rename_i h2
                have h2' : j - first.length < c.args.size := by simpa using h2
                rw [if_pos (by omega), if_neg (by omega), hl] at hd
                obtain ⟨k', hk', hr2⟩ := map_get ha _ _ hv
                rw [hd] at hk'; simp at hk'; subst hk'
                exact hr2
              · rename_i h2
                have h2' : ¬ j - first.length < c.args.size := by simpa using h2
                rw [if_neg (by omega)] at hd
                have e : j - (fs.size + c.args.size) = j - first.length - c.args.toList.length := by rw [hl]; simp; omega
                rw [e] at hd
                have hlt := (List.getElem?_eq_some_iff.1 hv).1
                rw [hk _ (by omega)] at hd
                simp at hd; subst hd
                exact hr' _ _ hv
          cases hrv with | d _ _ h => exact h
        · rintro e w' ⟨k, Z', he, hg, hr⟩
          exact ⟨k, Z', he, hg, hr.mono (fun i o h => by simp at h) (fun _ h => h) (fun _ _ => rfl)⟩
    · simp at he
  · simp at he

theorem eq_sound {op : BinOp} {t u : TypeId} {x y : Operand} {vx vy : V} (ho : o.op = .binOp op t x y u) (hx : RV bs Z w vx (a.eval x)) (hy : RV bs Z w vy (a.eval y))
    (he : evEq P op t vx vy = some (v, ps)) : Yields P bs Z w o a v := by
  unfold evEq at he
  split at he
  · rename_i dx dy
    cases hx with | d _ _ hx =>
    cases hy with | d _ _ hy =>
    have goal : ∀ r, eqB P t dx = true → eqD dx dy = some r → (op = .eql → Yields P bs Z w o a (vb r)) ∧ (op = .neq → Yields P bs Z w o a (vb (!r))) := by
      intro r hb hr
      have h1 := equal_run (P := P) hb hr hx hy
      have h2 := eqGuard_run (P := P) (op := op) (x := x) (y := y) hb hr hx hy
      have hnp : ∀ (k : IntKind) (m : Int) (k' : IntKind) (n : Int), a.eval x = .int k m → a.eval y = .int k' n → k = k' ∧ r = (m == n) := by
        intro k m k' n e1 e2
        rw [e1] at hx; rw [e2] at hy
        cases hx with
        | v =>
          cases hy with
          | v =>
            simp only [eqD, scal] at hr
            split at hr
            · rename_i hs; exact ⟨same_eq hs, by simpa using hr.symm⟩
            · simp at hr
          | any => simp [eqD, scal] at hr
        | any => cases dy <;> simp [eqD, scal] at hr
      have hrun : ∀ (neg : Bool), op = (if neg then .neq else .eql) → (binOp op t (a.eval x) (a.eval y)).run P w = .ok (.bool (if neg then !r else r)) w := by
        intro neg hop
        by_cases hint : ∃ k m k' n, a.eval x = .int k m ∧ a.eval y = .int k' n
        · obtain ⟨k, m, k', n, e1, e2⟩ := hint
          obtain ⟨rfl, rfl⟩ := hnp k m k' n e1 e2
          rw [e1, e2]
          cases neg <;> simp at hop <;> subst hop <;> simp [binOp, Op.intCmp]
          rfl
        · generalize a.eval x = cx at *
          generalize a.eval y = cy at *
          cases hx with
          | agg xs cs f hl hf g1 gr =>
            obtain ⟨ys, rfl⟩ : ∃ ys, dy = .agg ys := by cases dy <;> simp [eqD, scal] at hr ⊢
            obtain ⟨ds, rfl, _⟩ := hy.aggAt
            cases neg <;> simp at hop <;> subst hop
            · rw [run_eql_struct]; show Result.andThen ((Op.equal t (.agg cs) (.agg ds)).run P w) _ = _; rw [h1]; rfl
            · rw [run_neq_struct]; show Result.andThen ((Op.equal t (.agg cs) (.agg ds)).run P w) _ = _; rw [h1]; rfl
          | v x hx1 =>
            cases hy with
            | v y hy1 =>
              simp only [eqD, scal] at hr
              split at hr
              · rename_i e1 e2
                simp at e1 e2; subst e1; subst e2
                exact absurd ⟨_, _, _, _, rfl, rfl⟩ hint
              · rename_i e1 e2
                simp at e1 e2; subst e1; subst e2
                simp at hr; subst hr
                have h1' := h1
                cases neg <;> simp at hop <;> subst hop <;> simp [binOp, h1', Op.stringOp]
              · rename_i e1 e2
                simp at e1 e2; subst e1; subst e2
                simp at hr; subst hr
                have h1' := h1
                cases neg <;> simp at hop <;> subst hop <;> simp [binOp, Op.stringOp] <;> exact (beq_toListBytes _ _).symm
              · simp at hr
            | _ => simp [eqD, scal] at hr
          | any => cases dy <;> simp [eqD, scal] at hr
          | list0 => cases dy <;> simp [eqD, scal] at hr
          | list => cases dy <;> simp [eqD, scal] at hr
      refine ⟨fun hop => ?_, fun hop => ?_⟩
      · have := hrun false (by simpa using hop)
        exact Yields.val (by simp [execOp, ho, h2, this]) (RV.mkb _)
      · have := hrun true (by simpa using hop)
        exact Yields.val (by simp [execOp, ho, h2, this]) (RV.mkb _)
    split at he
    · split at he
      · rename_i hb
        simp only [Option.map_eq_some_iff, Prod.mk.injEq] at he
        obtain ⟨r, hr, rfl, rfl⟩ := he
        exact (goal r hb hr).1 rfl
      · simp at he
    · split at he
      · rename_i hb
        simp only [Option.map_eq_some_iff, Prod.mk.injEq] at he
        obtain ⟨r, hr, rfl, rfl⟩ := he
        exact (goal r hb hr).2 rfl
      · simp at he
    · simp at he
  · simp at he

theorem run_zero2 (hT : Tab.ok P tt) {t : TypeId} {i : TI} (h : tt.lookup t = some i) (w : World) : ∃ z, (zeroValue t).run P w = .ok z w ∧ z.cells.toList = i.zero ∧ (i.agg = true → z = .agg z.cells) ∧ (i.agg = false → z.cells = #[z]) := by
  obtain ⟨info, z, h1, h2, h3, h4, h5⟩ := (hT t i h).info
  have ha := (hT t i h).zagg info z h1 h4
  refine ⟨z, by simp [zeroValue, typeInfo, h1, h4], h5, fun h => ?_, fun h => ?_⟩
  · rw [h] at ha; cases z <;> simp [Value.isAgg] at ha ⊢; rfl
  · rw [h] at ha; cases z <;> simp [Value.isAgg] at ha ⊢ <;> rfl

theorem look_sound (hT : Tab.ok P tt) {Γ : Ctx} {H : List O} (hW : InvW Γ H bs Z w) {t : TypeId} {x k : Operand} {ok : Bool} {vx vk : V} {i : TI} {h : Hint} (ho : o.op = .lookup t x k ok) (hi : tt.lookup t = some i) (hx : RV bs Z w vx (a.eval x)) (hk : RV bs Z w vk (a.eval k))
    (he : evLook P tt i h H ok vx vk = some (v, ps)) (hp : ∀ p ∈ ps, p) : Yields P bs Z w o a v := by
  unfold evLook at he
  split at he
  · rename_i id kd
    cases hk with | d _ _ hk =>
    generalize hfx : a.eval x = fx at hx
    cases hx with | mp _ b q hb =>
    split at he
    · rename_i kvs kt et xd bb hH hkind
      simp only [Option.bind_eq_some_iff] at he
      obtain ⟨ie, hie, z, hz, he⟩ := he
      split at he
      · rename_i hbk
        simp only [Option.some.injEq, Prod.mk.injEq] at he
        obtain ⟨rfl, rfl⟩ := he
        obtain ⟨r, h1, h2, h3⟩ := hp _ (List.mem_singleton.2 rfl)
        obtain ⟨d, g1, g2, _⟩ := (hT t i hi).kind
        rw [hkind] at g2
        have g2 : d = .map kt et := g2
        subst g2
        obtain ⟨es, q', k1, k2, k3⟩ := hW.objs id _ _ hH hb
        have hget : (getObj b).run P w = .ok (.map es q') w := by simp [getObj, Sem.run, k1]
        have hck := checkKey_run (P := P) es.isEmpty hbk hk
        obtain ⟨qv, f1, f2⟩ := findKey_run (P := P) (es := es.toList) hbk hk h1 (by simpa using k2) (fun j y hy => by
          obtain ⟨e, e1, e2, e3⟩ := k3 j y hy
          exact ⟨e, by simpa using e1, e2, e3⟩)
        have hres : ∃ c, (execOp a.eval o).run P w = .ok (.value (if ok then .tuple #[c, .bool bb] else c)) w ∧ RD Z w xd c := by
          cases r with
          | none =>
            cases qv with
            | some q => exact f2.elim
            | none =>
              have hbb : bb = false := by
                cases bb
                · rfl
                · simp at h2
              subst hbb
              obtain ⟨z', z1, z2, z3, z4⟩ := run_zero2 hT hie w
              have hzr := zero_rel hT (bs := []) (Z := Z) (w := w) hie z' z2
              refine ⟨z', ?_, ?_⟩
              · simp only [execOp, ho, Instr.lookup, Sem.run_bind, run_underlying g1, hfx, hget, Result.andThen_ok, hck, f1, z1, Sem.run_pure]
                try (cases ok <;> rfl)
              · rw [h3 rfl]
                have hzd : RDL Z w (ie.zero.map .v) z'.cells.toList := by
                  have : (ie.zero.map fun z => V.d (.v z)) = (ie.zero.map D.v).map V.d := by simp
                  rw [this] at hzr
                  exact hzr.toD
                unfold mkD at hz
                split at hz
                · rename_i hagg
                  simp at hz; subst hz
                  have := RD.ofL hzd
                  rw [z3 hagg]
                  simpa using this
                · rename_i hagg
                  have hz1 := z4 (by simpa using hagg)
                  split at hz
                  · rename_i y hy
                    simp at hz; subst hz
                    rw [hy, hz1] at hzd
                    exact (hzd.2 0 y z' rfl (by simp)).2
                  · simp at hz
          | some r =>
            cases qv with
            | none => exact f2.elim
            | some q =>
              obtain ⟨f3, f4, f5, e, y, f6, f7, f8, f9, f10⟩ := f2
              have hbb : bb = true ∧ r.2 = xd := by
                cases bb
                · simp at h2
                · simp at h2; exact ⟨rfl, h2⟩
              obtain ⟨rfl, rfl⟩ := hbb
              refine ⟨q.2, ?_, f5⟩
              simp only [execOp, ho, Instr.lookup, Sem.run_bind, run_underlying g1, hfx, hget, Result.andThen_ok, hck, f1, Sem.run_pure]
              try (cases ok <;> rfl)
        obtain ⟨c, hrun, hrd⟩ := hres
        cases ok with
        | false => exact Yields.val hrun (.d _ _ hrd)
        | true =>
          refine Yields.val hrun (.tup _ _ (fun j => if j = 0 then c else .bool bb) rfl (fun j hj => ?_) (fun j y hy => ?_))
          · have : j = 0 ∨ j = 1 := by simp at hj; omega
            rcases this with rfl | rfl <;> rfl
          · have : j = 0 ∨ j = 1 := by have := (List.getElem?_eq_some_iff.1 hy).1; simp at this; omega
            rcases this with rfl | rfl
            · simp at hy; subst hy; exact .d _ _ hrd
            · simp at hy; subst hy; exact RV.mkb _
      · simp at he
    · simp at he
  · simp at he

theorem len_sound {Γ : Ctx} {H : List O} (hW : InvW Γ H bs Z w) (hT : Tab.ok P tt) {c : Call} {x : Operand} {vx : V} (ho : o.op = .call c) (hc : c.callee = .builtin .len) (ha : c.args.toList = [x]) (hx : RV bs Z w vx (a.eval x))
    {t : TypeId} {rest : List TypeId} (hty : c.argTypes.toList = t :: rest) {i : TI} (hi : tt.lookup t = some i) (hk : lenKind i.kind vx = true)
    (he : evLen H vx = some (v, ps)) : Yields P bs Z w o a v := by
  have hty' : c.argTypes[0]? = some t := by
    have : c.argTypes.toList[0]? = some t := by rw [hty]; rfl
    simpa using this
  have go : ∀ m : Nat, (∀ tt', (Builtin.len_ c.argTypes tt' #[a.eval x]).run P w = .ok (goInt m) w) → v = vi m → Yields P bs Z w o a v := by
    intro m h1 h2
    subst h2
    exact Yields.val (run_len ho hc ha h1) (RV.mki _ _)
  obtain ⟨d, g1, g2, g3⟩ := (hT t i hi).kind
  unfold evLen at he
  generalize hv : a.eval x = c' at hx
  split at he
  · rename_i tg e n cells
    simp only [Option.some.injEq, Prod.mk.injEq] at he
    obtain ⟨rfl, rfl⟩ := he
    cases hx with | d _ _ hx =>
    cases hik : i.kind <;> simp [hik, lenKind] at hk
    rw [hik] at g2; cases g2
    cases hx with
    | list0 _ _ ad cap h => exact go 0 (fun tt' => by simp [Builtin.len_, hty', run_underlying g1, hv]) rfl
    | list _ _ _ _ ad cap f => exact go n (fun tt' => by simp [Builtin.len_, hty', run_underlying g1, hv]) rfl
  · rename_i id off n
    simp only [Option.some.injEq, Prod.mk.injEq] at he
    obtain ⟨rfl, rfl⟩ := he
    cases hik : i.kind <;> simp [hik, lenKind] at hk
    rw [hik] at g2; cases g2
    cases hx with
    | sl0 => exact go 0 (fun tt' => by simp [Builtin.len_, hty', run_underlying g1, hv]) rfl
    | sl => exact go n (fun tt' => by simp [Builtin.len_, hty', run_underlying g1, hv]) rfl
  · simp only [Option.some.injEq, Prod.mk.injEq] at he
    obtain ⟨rfl, rfl⟩ := he
    have := hx.lit
    subst this
    cases hik : i.kind <;> simp [hik, lenKind] at hk
    rw [hik] at g2; cases g2
    exact go 0 (fun tt' => by simp [Builtin.len_, hty', run_underlying g1, hv]) rfl
  · simp only [Option.some.injEq, Prod.mk.injEq] at he
    obtain ⟨rfl, rfl⟩ := he
    have := hx.lit
    subst this
    cases hik : i.kind <;> simp [hik, lenKind] at hk
    rw [hik] at g2; cases g2
    exact go _ (fun tt' => by simp [Builtin.len_, hty', run_underlying g1, hv]) rfl
  · rename_i id
    split at he
    · rename_i kvs hH
      simp only [Option.some.injEq, Prod.mk.injEq] at he
      obtain ⟨rfl, rfl⟩ := he
      cases hik : i.kind <;> simp [hik, lenKind] at hk
      rw [hik] at g2; cases g2
      cases hx with | mp _ b k hb =>
      obtain ⟨es, q, h1, h2, _⟩ := hW.objs id _ _ hH hb
      refine go kvs.length (fun tt' => ?_) rfl
      have hget : (getObj b).run P w = .ok (.map es q) w := by simp [getObj, Sem.run, h1]
      simp [Builtin.len_, hty', run_underlying g1, hv, hget, h2]
    · simp at he
  · simp at he

/-- The evaluator at an operation that makes nothing of its own is sound. -/
theorem evPure_sound {Γ : Ctx} {H : List O} (hT : Tab.ok P tt) (hW : InvW Γ H bs Z w) {get : Operand → V} {h : Hint} (hget : ∀ x, RV bs Z w (get x) (a.eval x))
    (he : evPure P tt o h get H = some (v, ps)) (hp : ∀ p ∈ ps, p) : Yields P bs Z w o a v := by
  unfold evPure at he
  split at he
  · rename_i x ho; simp at he; obtain ⟨rfl, rfl⟩ := he; exact move_sound (.inl ho) (hget x)
  · rename_i x ho; simp at he; obtain ⟨rfl, rfl⟩ := he; exact move_sound (.inr ho) (hget x)
  · rename_i c x y ho; exact pick_sound ho (hget c) (hget x) (hget y) he hp
  · rename_i t x ho
    simp only [Option.bind_eq_some_iff] at he
    obtain ⟨i, hi, he⟩ := he
    exact load_sound hT hW ho (hget x) hi he hp
  · rename_i s x f ho
    simp only [Option.bind_eq_some_iff] at he
    obtain ⟨i, hi, he⟩ := he
    exact fieldAddr_sound hT ho (hget x) hi he
  · rename_i s x f ho
    simp only [Option.bind_eq_some_iff] at he
    obtain ⟨i, hi, he⟩ := he
    exact field_sound hT ho (hget x) hi he
  · rename_i t x k ho
    simp only [Option.bind_eq_some_iff] at he
    obtain ⟨i, hi, he⟩ := he
    exact indexAddr_sound hT ho (hget x) (hget k) hi he hp
  · rename_i t x k ho
    simp only [Option.bind_eq_some_iff] at he
    obtain ⟨i, hi, he⟩ := he
    exact index_sound hT ho (hget x) (hget k) hi he hp
  · rename_i t x lo hi' ho
    simp only [Option.bind_eq_some_iff] at he
    obtain ⟨i, hi, he⟩ := he
    exact slice_sound hT hW ho (hget x) (fun y _ => hget y) (fun y _ => hget y) hi he hp
  · rename_i t k ho
    split at he
    · rename_i vs hg
      simp only [Option.map_eq_some_iff, Prod.mk.injEq] at he
      obtain ⟨v', hk, rfl, rfl⟩ := he
      have := hget t
      rw [hg] at this
      exact extract_sound ho this hk
    · simp at he
  · rename_i t parts ho
    simp only [Option.bind_eq_some_iff] at he
    obtain ⟨i, hi, ⟨v0, ps0⟩, he, hl⟩ := he
    have hb := build_sound hT ho (fun p _ => hget p.2) hi he
    unfold laxH at hl
    split at hl
    · rename_i ys xs qs heq
      simp only [Option.some.injEq, Prod.mk.injEq] at hl heq
      obtain ⟨rfl, rfl⟩ := hl
      obtain ⟨rfl, rfl⟩ := heq
      intro next Q hn
      refine hb next Q fun c w' Z' hg hv => hn c w' Z' hg ?_
      have hle : LeDs xs ys := hp _ (List.mem_cons_self ..)
      cases hv with | d _ _ hd => exact .d _ _ (hd.le (.agg hle))
    · simp at hl
    · simp only [Option.some.injEq, Prod.mk.injEq] at hl
      obtain ⟨rfl, rfl⟩ := hl
      exact hb
  · rename_i t len parts ho
    split at he
    · simp at he
    · simp only [Option.bind_eq_some_iff, Option.map_eq_some_iff] at he
      obtain ⟨i, hi, ⟨e, vs⟩, h1, ds, h2, h3⟩ := he
      simp at h3
      obtain ⟨rfl, rfl⟩ := h3
      exact buildSlice_sound hT ho hW.zlt (fun p _ => hget p.2) hi h1 h2 true
    · simp only [Option.bind_eq_some_iff, Option.map_eq_some_iff] at he
      obtain ⟨i, hi, ⟨e, vs⟩, h1, ds, h2, h3⟩ := he
      simp at h3
      obtain ⟨rfl, rfl⟩ := h3
      exact buildSlice_sound hT ho hW.zlt (fun p _ => hget p.2) hi h1 h2 false
  · rename_i op t x y u ho
    unfold evBin2 at he
    split at he
    · rename_i q hq
      simp at he; subst he
      exact bin_sound ho (hget x) (hget y) hq hp
    · exact eq_sound ho (hget x) (hget y) he
  · rename_i t x k ok ho
    simp only [Option.bind_eq_some_iff] at he
    obtain ⟨i, hi, he⟩ := he
    exact look_sound hT hW ho hi (hget x) (hget k) he hp
  · rename_i op t x ho; exact un_sound ho (hget x) he
  · rename_i s t x ho
    simp only [Option.bind_eq_some_iff] at he
    obtain ⟨i', hs, i, hi, he⟩ := he
    exact convert_sound hT ho (hget x) hs hi he
  · rename_i x ho
    split at he
    · rename_i id off hg
      simp at he; obtain ⟨rfl, rfl⟩ := he
      have := hget x
      rw [hg] at this
      exact nilCheck_ref ho this
    · rename_i cells hg
      simp at he; obtain ⟨rfl, rfl⟩ := he
      have := hget x
      rw [hg] at this
      exact nilCheck_rop ho this
    · simp at he
  · rename_i g first captured ho
    simp at he; obtain ⟨rfl, rfl⟩ := he
    exact makeFunc_sound ho (fun x _ => hget x) (fun x _ => hget x)
  · rename_i c ho
    split at he
    · rename_i hc
      unfold evLenC at he
      split at he
      · rename_i x t rest ha hty
        simp only [Option.bind_eq_some_iff] at he
        obtain ⟨i, hi, he⟩ := he
        split at he
        · rename_i hk
          exact len_sound hW hT ho hc ha (hget x) hty hi hk he
        · simp at he
      · simp at he
    · rename_i hc
      split at he
      · rename_i k x vs hm
        simp only [Option.map_eq_some_iff, Prod.mk.injEq] at he
        obtain ⟨v', hv, rfl, rfl⟩ := he
        exact max_sound ho hc (fun y _ => hget y) hm hv
      · simp at he
    · rename_i hc
      split at he
      · rename_i k x vs hm
        simp only [Option.map_eq_some_iff, Prod.mk.injEq] at he
        obtain ⟨v', hv, rfl, rfl⟩ := he
        exact min_sound ho hc (fun y _ => hget y) hm hv
      · simp at he
    · rename_i hc
      unfold evAppC at he
      split at he
      · rename_i s x t t' ha hty
        split at he
        · rename_i htt
          simp at htt; subst htt
          simp only [Option.bind_eq_some_iff] at he
          obtain ⟨i, hi, he⟩ := he
          exact appendT_sound hT hW.zlt ho hc ha hty hi (hget s) (hget x) he hp
        · simp at he
      · simp at he
    · rename_i f hc
      exact call_sound hW ho hc (hget f) (fun y _ => hget y) he hp
    · simp at he
  · simp at he

theorem getV_sound {N : Nat} {Γ : Ctx} {T : St} (hI : InvT N Γ T bs Z a w) (x : Operand) : RV bs Z w (getV T x) (a.eval x) := by
  cases x with
  | tmp t =>
    simp only [getV, Act.eval]
    cases hl : T.lookup t with
    | none => exact .top _
    | some v =>
      have : (t, v) ∈ T := by
        clear hI
        induction T with
        | nil => simp at hl
        | cons p T ih =>
          obtain ⟨k, u⟩ := p
          rw [List.lookup_cons] at hl
          split at hl
          · rename_i he
            simp at he hl; subst he; subst hl; simp
          · exact List.mem_cons_of_mem _ (ih hl)
      exact (hI.rel t v this).2
  | const v =>
    simp only [getV, Act.eval, constV]
    split
    · rename_i h; exact .d _ _ (.v _ h)
    · exact .top _
  | global g => exact .top _
  | func f => exact .fn _ _ _ _ _ (fun _ => undef) (fun _ => undef) rfl rfl (fun j hj => by simp at hj) (fun j hj => by simp at hj) (fun j x h => by simp at h) (fun j x h => by simp at h)

end call
end Go.Sx
