/- Soundness of the evaluator: addresses, numbers, parts. -/
import Derived.Test.YtadejgckgnbaoaaSxSound2
namespace Go.Sx
open Go

section cases
variable {P : Program} {tt : Tab} {bs : Bs} {Z : Nat → Prop} {w : World} {o : Oper} {a : Act} {v : V} {ps : List Prop}

theorem addr_add (b k n : Nat) : ((⟨b, k, none⟩ : Addr).add n) = ⟨b, k + n, none⟩ := by
  unfold Addr.add; split <;> simp_all

theorem RV.rop_drop {cells : List D} {ad : Addr} (h : RV bs Z w (.rop cells) (.pointer (some ad))) (n : Nat) : RV bs Z w (.rop (cells.drop n)) (.pointer (some (ad.add n))) := by
  cases h with | rop _ _ f hz hc h1 hr =>
  refine .rop _ _ (fun j => f (n + j)) (by rw [add_block]; exact hz) (fun j hj => ?_) (fun j hj => ?_) (fun j x hx => ?_)
  · simp at hj; rw [add_add]; exact hc _ (by omega)
  · simp at hj; exact h1 _ (by omega)
  · rw [List.getElem?_drop] at hx; exact hr _ x hx

theorem RV.rop_take {cells : List D} {ad : Addr} (h : RV bs Z w (.rop cells) (.pointer (some ad))) (n : Nat) : RV bs Z w (.rop (cells.take n)) (.pointer (some ad)) := by
  cases h with | rop _ _ f hz hc h1 hr =>
  refine .rop _ _ f hz (fun j hj => ?_) (fun j hj => ?_) (fun j x hx => ?_)
  · simp at hj; exact hc _ (by omega)
  · simp at hj; exact h1 _ (by omega)
  · rw [List.getElem?_take] at hx; split at hx
    · exact hr _ x hx
    · simp at hx

theorem RD.asRop {t : Bool} {e n : Nat} {cells : List D} {c : Value} (h : RD Z w (.list t e n cells) c) (hn : 0 < n) : ∃ ad cap, c = .slice (some ad) n cap ∧ n ≤ cap ∧ (t = true → cap = n) ∧ cells.length = n * e ∧ RV bs Z w (.rop cells) (.pointer (some ad)) := by
  cases h with
  | list0 => omega
  | list _ _ _ _ ad cap f hn hl hz hcap ht hc h1 hr => exact ⟨ad, cap, rfl, hcap, ht, hl, .rop cells ad f hz hc h1 hr⟩

theorem move_sound {x : Operand} {vx : V} (ho : o.op = .move x ∨ o.op = .assign x) (hx : RV bs Z w vx (a.eval x)) : Yields P bs Z w o a vx := by
  rcases ho with ho | ho <;> exact Yields.val (by simp [execOp, ho]) hx

theorem nilCheck_ref {x : Operand} {id off : Nat} (ho : o.op = .nilCheck x) (hx : RV bs Z w (.ref id off) (a.eval x)) : Yields P bs Z w o a (.ref id off) := by
  generalize hc : a.eval x = c at hx
  cases hx with | ref _ _ b k hb => exact Yields.val (by simp [execOp, ho, hc]) (.ref _ _ b k hb)
theorem nilCheck_rop {x : Operand} {cells : List D} (ho : o.op = .nilCheck x) (hx : RV bs Z w (.rop cells) (a.eval x)) : Yields P bs Z w o a (.rop cells) := by
  generalize hc : a.eval x = c at hx
  cases hx with | rop _ ad f hz hcell h1 hr => exact Yields.val (by simp [execOp, ho, hc]) (.rop cells ad f hz hcell h1 hr)

theorem extract_sound {t : Operand} {k : Nat} {vs : List V} (ho : o.op = .extract t k) (hx : RV bs Z w (.tup vs) (a.eval t)) (hk : vs[k]? = some v) : Yields P bs Z w o a v := by
  generalize hc : a.eval t = c at hx
  cases hx with | tup _ cs f hl hf hr =>
  have hk' : k < cs.size := by rw [hl]; exact (List.getElem?_eq_some_iff.1 hk).1
  refine Yields.val (c := f k) ?_ (hr k v hk)
  have := hf k hk'
  simp [execOp, ho, hc, Instr.extract, this]

theorem map_get {get : Operand → V} {xs : Array Operand} (h : ∀ x ∈ xs, RV bs Z w (get x) (a.eval x)) : ∀ (j : Nat) v, (xs.toList.map get)[j]? = some v → ∃ c, (xs.map a.eval)[j]? = some c ∧ RV bs Z w v c := by
  intro j v hv
  rw [List.getElem?_map] at hv
  cases hx : xs.toList[j]? with
  | none => simp [hx] at hv
  | some x =>
    simp [hx] at hv; subst hv
    have hm : x ∈ xs := by
      have := List.mem_of_getElem? hx
      simpa using this
    refine ⟨a.eval x, ?_, h x hm⟩
    have : xs[j]? = some x := by simpa using hx
    simp [this]

theorem makeFunc_sound {g : Fn} {first captured : Array Operand} {get : Operand → V} (ho : o.op = .makeFunc g first captured)
    (h1 : ∀ x ∈ first, RV bs Z w (get x) (a.eval x)) (h2 : ∀ x ∈ captured, RV bs Z w (get x) (a.eval x)) :
    Yields P bs Z w o a (.fn g (first.toList.map get) (captured.toList.map get)) := by
  refine Yields.val (c := .func g (first.map a.eval) (captured.map a.eval)) (by simp [execOp, ho, Instr.makeFunc]) ?_
  refine .fn g _ _ _ _ (fun j => (first.map a.eval).getD j undef) (fun j => (captured.map a.eval).getD j undef) (by simp) (by simp) (fun j hj => ?_) (fun j hj => ?_) (fun j x hx => ?_) (fun j x hx => ?_)
  · simp at hj; simp [Array.getD, hj]
  · simp at hj; simp [Array.getD, hj]
  · obtain ⟨c, hc, hr⟩ := map_get h1 j x hx
    rw [Array.getD_eq_getD_getElem?, hc]; exact hr
  · obtain ⟨c, hc, hr⟩ := map_get h2 j x hx
    rw [Array.getD_eq_getD_getElem?, hc]; exact hr

theorem same_eq {k k' : IntKind} (h : IntKind.same k k' = true) : k = k' := by cases k <;> cases k' <;> simp [IntKind.same] at h <;> rfl

theorem bin_sound {op : BinOp} {t u : TypeId} {x y : Operand} {vx vy : V} (ho : o.op = .binOp op t x y u) (hx : RV bs Z w vx (a.eval x)) (hy : RV bs Z w vy (a.eval y))
    (he : evBin op vx vy = some (v, ps)) (hp : ∀ p ∈ ps, p) : Yields P bs Z w o a v := by
  unfold evBin at he
  split at he
  · rename_i k m k' n
    split at he
    · rename_i hs
      have := same_eq hs
      subst this
      have e1 := hx.lit
      have e2 := hy.lit
      cases op <;> simp only [binInt, Option.some.injEq, Prod.mk.injEq, reduceCtorEq] at he <;> obtain ⟨rfl, rfl⟩ := he
      case quo => exact Yields.val (by simp [execOp, ho, e1, e2, eqGuard, binOp, Op.intDiv, show n ≠ 0 from hp _ (by simp)]) (RV.mki _ _)
      case rem => exact Yields.val (by simp [execOp, ho, e1, e2, eqGuard, binOp, Op.intDiv, show n ≠ 0 from hp _ (by simp)]) (RV.mki _ _)
      all_goals first
        | exact Yields.val (by simp [execOp, ho, e1, e2, eqGuard, binOp, Op.intArith]) (RV.mki _ _)
        | exact Yields.val (by simp [execOp, ho, e1, e2, eqGuard, binOp, Op.intCmp]) (RV.mkb _)
    · simp at he
  · simp at he

theorem un_sound {op : UnOp} {t : TypeId} {x : Operand} {vx : V} (ho : o.op = .unOp op t x) (hx : RV bs Z w vx (a.eval x)) (he : evUn op vx = some (v, ps)) : Yields P bs Z w o a v := by
  unfold evUn at he
  split at he
  · have e1 := hx.lit
    cases op <;> simp at he
    obtain ⟨rfl, rfl⟩ := he
    exact Yields.val (by simp [execOp, ho, e1, Op.unary]) (RV.mkb _)
  · have e1 := hx.lit
    cases op <;> simp at he
    obtain ⟨rfl, rfl⟩ := he
    exact Yields.val (by simp [execOp, ho, e1, Op.unary, Op.intArith]) (RV.mki _ _)
  · simp at he

theorem max_go {get : Operand → V} (k : IntKind) : ∀ (xs : List Operand) (x : Int), (∀ y ∈ xs, RV bs Z w (get y) (a.eval y)) → maxI k x (xs.map get) = some v →
    ∃ n, v = .d (.v (.int k n)) ∧ ((xs.map a.eval).foldlM Builtin.max2 (.int k x)).run P w = .ok (.int k n) w := by
  intro xs
  induction xs with
  | nil => intro x _ h; simp [maxI] at h; exact ⟨x, h.symm, by simp⟩
  | cons y ys ih =>
    intro x hx h
    have h0 := hx y (by simp)
    rw [List.map_cons] at h
    generalize get y = g at h h0
    unfold maxI at h
    split at h
    · rename_i heq; simp at heq
    rotate_left
    · simp at h
    rename_i heq
    simp only [List.cons.injEq] at heq
    obtain ⟨rfl, rfl⟩ := heq
    have e := h0.lit
    obtain ⟨n, hn, hr⟩ := ih _ (fun y hy => hx y (by simp [hy])) h
    refine ⟨n, hn, ?_⟩
    simp only [List.map_cons, List.foldlM_cons, Sem.run_bind, e, Builtin.max2, Sem.run_pure, Result.andThen_ok]
    exact hr

theorem min_go {get : Operand → V} (k : IntKind) : ∀ (xs : List Operand) (x : Int), (∀ y ∈ xs, RV bs Z w (get y) (a.eval y)) → minI k x (xs.map get) = some v →
    ∃ n, v = .d (.v (.int k n)) ∧ ((xs.map a.eval).foldlM Builtin.min2 (.int k x)).run P w = .ok (.int k n) w := by
  intro xs
  induction xs with
  | nil => intro x _ h; simp [minI] at h; exact ⟨x, h.symm, by simp⟩
  | cons y ys ih =>
    intro x hx h
    have h0 := hx y (by simp)
    rw [List.map_cons] at h
    generalize get y = g at h h0
    unfold minI at h
    split at h
    · rename_i heq; simp at heq
    rotate_left
    · simp at h
    rename_i heq
    simp only [List.cons.injEq] at heq
    obtain ⟨rfl, rfl⟩ := heq
    have e := h0.lit
    obtain ⟨n, hn, hr⟩ := ih _ (fun y hy => hx y (by simp [hy])) h
    refine ⟨n, hn, ?_⟩
    simp only [List.map_cons, List.foldlM_cons, Sem.run_bind, e, Builtin.min2, Sem.run_pure, Result.andThen_ok]
    exact hr

theorem max_sound {c : Call} {get : Operand → V} {k : IntKind} {x : Int} {vs : List V} (ho : o.op = .call c) (hc : c.callee = .builtin .max) (hx : ∀ y ∈ c.args, RV bs Z w (get y) (a.eval y))
    (hm : c.args.toList.map get = .d (.v (.int k x)) :: vs) (he : maxI k x vs = some v) : Yields P bs Z w o a v := by
  obtain ⟨callee, ⟨args⟩, tys⟩ := c
  cases args with
  | nil => simp at hm
  | cons y ys =>
    simp at hm hc hx
    obtain ⟨hm1, hm2⟩ := hm
    have h0 := hx.1
    rw [hm1] at h0
    have e := h0.lit
    rw [← hm2] at he
    obtain ⟨n, hn, hr⟩ := max_go (P := P) (a := a) (w := w) (bs := bs) (Z := Z) k ys x hx.2 he
    subst hn
    refine Yields.val (c := .int k n) ?_ (RV.mki _ _)
    simp [execOp, ho, resolve, hc, invoke, builtin, Builtin.max_, e, hr]

theorem min_sound {c : Call} {get : Operand → V} {k : IntKind} {x : Int} {vs : List V} (ho : o.op = .call c) (hc : c.callee = .builtin .min) (hx : ∀ y ∈ c.args, RV bs Z w (get y) (a.eval y))
    (hm : c.args.toList.map get = .d (.v (.int k x)) :: vs) (he : minI k x vs = some v) : Yields P bs Z w o a v := by
  obtain ⟨callee, ⟨args⟩, tys⟩ := c
  cases args with
  | nil => simp at hm
  | cons y ys =>
    simp at hm hc hx
    obtain ⟨hm1, hm2⟩ := hm
    have h0 := hx.1
    rw [hm1] at h0
    have e := h0.lit
    rw [← hm2] at he
    obtain ⟨n, hn, hr⟩ := min_go (P := P) (a := a) (w := w) (bs := bs) (Z := Z) k ys x hx.2 he
    subst hn
    refine Yields.val (c := .int k n) ?_ (RV.mki _ _)
    simp [execOp, ho, resolve, hc, invoke, builtin, Builtin.min_, e, hr]

variable (hT : Tab.ok P tt)
include hT

theorem struct_field {t : TypeId} {i : TI} {fs : List (Nat × Nat × Bool)} {f : Nat} {p : Nat × Nat × Bool} (hi : tt.lookup t = some i) (hk : i.kind = .struct fs) (hf : fs[f]? = some p) :
    ∃ fields fl, (∀ w, (underlying t).run P w = .ok (.struct fields) w) ∧ fields[f]? = some fl ∧ fl.offset = p.1 ∧ (∀ w, (sizeOf fl.type).run P w = .ok p.2.1 w) ∧ 0 < p.2.1 ∧
      (∀ w, (isAgg fl.type).run P w = .ok p.2.2 w) := by
  obtain ⟨d, h1, h2, h3⟩ := (hT t i hi).kind
  rw [hk] at h2
  obtain ⟨fields, rfl, hl, hall⟩ := h2
  have hlt : f < fields.size := by rw [← hl]; exact (List.getElem?_eq_some_iff.1 hf).1
  obtain ⟨inf, u, g1, g2, g3, g4⟩ := hall f fields[f] (by simp [hlt])
  rw [hf] at g3
  simp only [Option.some.injEq] at g3
  subst g3
  refine ⟨fields, fields[f], fun w => run_underlying h1 w, by simp [hlt], rfl, fun w => by simp [sizeOf, typeInfo, g1], g4, fun w => ?_⟩
  unfold isAgg
  simp only [Sem.run_bind, run_underlying g2, Result.andThen_ok]
  cases u <;> rfl

theorem fieldAddr_sound {s : TypeId} {x : Operand} {f : Nat} {i : TI} {vx : V} (ho : o.op = .fieldAddr s x f) (hx : RV bs Z w vx (a.eval x)) (hi : tt.lookup s = some i)
    (he : evFieldAddr i f vx = some (v, ps)) : Yields P bs Z w o a v := by
  generalize hc : a.eval x = c at hx
  have key : ∀ (ad : Addr) (fs : List (Nat × Nat × Bool)) (p : Nat × Nat × Bool), c = .pointer (some ad) → i.kind = .struct fs → fs[f]? = some p →
      (execOp a.eval o).run P w = .ok (.value (.pointer (some (ad.add p.1)))) w := by
    intro ad fs p h1 h2 h3
    obtain ⟨fields, fl, g1, g2, g3, g4, g5, g6⟩ := struct_field hT hi h2 h3
    have hn : p.2.1 ≠ 0 := by omega
    simp [execOp, ho, Instr.fieldAt, g1, g2, hc, h1, Instr.sureAddr, fieldPlace, g4, hn, g3]
  unfold evFieldAddr at he
  split at he
  · split at he
    · rename_i id off fs hk
      simp only [Option.map_eq_some_iff, Prod.mk.injEq] at he
      obtain ⟨p, hp, rfl, rfl⟩ := he
      cases hx with | ref _ _ b k hb =>
      refine Yields.val (key _ _ p rfl hk hp) ?_
      rw [addr_add]
      exact .ref _ _ b k hb
    · simp at he
  · split at he
    · rename_i hk
      simp only [Option.map_eq_some_iff, Prod.mk.injEq] at he
      obtain ⟨p, hp, rfl, rfl⟩ := he
      cases hx with | rop _ ad g hz hcell h1 hr =>
      exact Yields.val (key ad _ p rfl hk hp) (RV.rop_drop (.rop _ ad g hz hcell h1 hr) _)
    · simp at he
  · simp at he

end cases
end Go.Sx
