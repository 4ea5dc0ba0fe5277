/- Soundness of the evaluator at a single operation that makes nothing of its own. -/
import Derived.Test.YtadejgckgnbaoaaSxSound1
namespace Go.Sx
open Go

theorem Grow.refl (Z : Nat → Prop) (w : World) : Grow Z w Z w := ⟨rfl, rfl, rfl, Nat.le_refl _, fun _ _ => rfl, fun _ h => h, fun _ h => .inl h⟩

theorem Grow.trans {Z Z1 Z2 : Nat → Prop} {w w1 w2 : World} (h : Grow Z w Z1 w1) (k : Grow Z1 w1 Z2 w2) : Grow Z w Z2 w2 :=
  ⟨k.os.trans h.os, k.tape.trans h.tape, k.output.trans h.output, Nat.le_trans h.size k.size, fun b hb => (k.heap b (Nat.lt_of_lt_of_le hb h.size)).trans (h.heap b hb),
    fun b hb => k.zs b (h.zs b hb), fun b hb => by
      rcases k.znew b hb with h1 | h1
      · rcases h.znew b h1 with h2 | h2
        · exact .inl h2
        · exact .inr ⟨h2.1, Nat.lt_of_lt_of_le h2.2 k.size⟩
      · exact .inr ⟨Nat.le_trans h.size h1.1, h1.2⟩⟩

theorem Grow.zlt {Z Z' : Nat → Prop} {w w' : World} (h : Grow Z w Z' w') (hz : ∀ b, Z b → b < w.heap.size) : ∀ b, Z' b → b < w'.heap.size := fun b hb => by
  rcases h.znew b hb with h1 | h1
  · exact Nat.lt_of_lt_of_le (hz b h1) h.size
  · exact h1.2

theorem InvW.grow {Γ : Ctx} {H : List O} {bs : Bs} {Z Z' : Nat → Prop} {w w' : World} (h : InvW Γ H bs Z w) (g : Grow Z w Z' w') : InvW Γ H bs Z' w' where
  lenH := h.lenH
  objs i o b ho hb := (h.objs i o b ho hb).mono (fun _ _ h => h) g.zs (fun b hz => g.heap b (h.zlt b hz)) (fun k q hk => g.heap k (h.lt i k q (hk ▸ hb)))
  nodup := h.nodup
  disj i b k hb hz := by
    rcases g.znew b hz with h1 | h1
    · exact h.disj i b k hb h1
    · have := h.lt i b k hb; omega
  lt i b k hb := Nat.lt_of_lt_of_le (h.lt i b k hb) g.size
  zlt := g.zlt h.zlt
  z0 b hb := g.zs b (h.z0 b hb)
  fresh := h.fresh
  zfresh b hb := by
    rcases g.znew b hb with h1 | h1
    · exact h.zfresh b h1
    · exact .inr (.inl (Nat.le_trans h.size h1.1))
  size := Nat.le_trans h.size g.size
  frame b hb hn := (g.heap b (Nat.lt_of_lt_of_le hb h.size)).trans (h.frame b hb hn)
  os := g.os.trans h.os
  tape := g.tape.trans h.tape
  output := g.output.trans h.output
  pin := h.pin

theorem RV.grow {bs : Bs} {Z Z' : Nat → Prop} {w w' : World} {v : V} {c : Value} (h : RV bs Z w v c) (hz : ∀ b, Z b → b < w.heap.size) (g : Grow Z w Z' w') : RV bs Z' w' v c :=
  h.mono (fun _ _ h => h) g.zs (fun b hb => g.heap b (hz b hb))

section types
variable {P : Program} {tt : Tab} (hT : Tab.ok P tt) {t : TypeId} {i : TI}
include hT

theorem run_size (h : tt.lookup t = some i) (w : World) : (sizeOf t).run P w = .ok i.size w := by
  obtain ⟨info, z, h1, h2, h3, h4, h5⟩ := (hT t i h).info
  simp [sizeOf, typeInfo, h1, h2]

theorem run_isAgg (h : tt.lookup t = some i) (w : World) : (isAgg t).run P w = .ok i.agg w := by
  obtain ⟨d, h1, h2, h3⟩ := (hT t i h).kind
  unfold isAgg
  simp only [Sem.run_bind, run_underlying h1, Result.andThen_ok, h3]
  cases d <;> rfl

theorem run_und (h : tt.lookup t = some i) (w : World) : ∃ d, (underlying t).run P w = .ok d w ∧ TK.ok P i.kind d ∧ P.underlying t = some d := by
  obtain ⟨d, h1, h2, h3⟩ := (hT t i h).kind
  exact ⟨d, run_underlying h1 w, h2, h1⟩

theorem run_zero (h : tt.lookup t = some i) (w : World) : ∃ z, (zeroValue t).run P w = .ok z w ∧ z.cells.toList = i.zero := by
  obtain ⟨info, z, h1, h2, h3, h4, h5⟩ := (hT t i h).info
  exact ⟨z, by simp [zeroValue, typeInfo, h1, h4], h5⟩

theorem run_loadVar (h : tt.lookup t = some i) {w : World} {ad : Addr} {cs : List Value} (hl : cs.length = i.size) (hs : i.agg = false → i.size = 1)
    (hc : ∀ (j : Nat) v, cs[j]? = some v → w.cell? (ad.add j) = some v) : (loadVar t ad).run P w = .ok (valOf i.agg cs) w := by
  unfold loadVar
  simp only [Sem.run_bind, run_isAgg hT h, Result.andThen_ok]
  cases ha : i.agg with
  | true =>
    simp only [if_true, Sem.run_bind, run_size hT h, Result.andThen_ok]
    rw [← hl, run_loadCells_list w ad cs hc]
    rfl
  | false =>
    have h1 := hs ha
    simp only [Bool.false_eq_true, if_false]
    match cs, hl with
    | [c], _ =>
      have := hc 0 c rfl
      rw [run_load]
      simp [Addr.add] at this
      simp [this, valOf]
    | [], hl => simp at hl; omega
    | _ :: _ :: _, hl => simp at hl; omega
end types

/-- What an operation that yields v leaves to show. -/
def Yields (P : Program) (bs : Bs) (Z : Nat → Prop) (w : World) (o : Oper) (a : Act) (v : V) : Prop :=
  ∀ (next : Act → World → Prop) (Q : Exit → Act → World → Prop), (∀ c w' Z', Grow Z w Z' w' → RV bs Z' w' v c → next (a.put o.dst c) w') → o.wp P a w next Q

theorem Yields.val {P : Program} {bs : Bs} {Z : Nat → Prop} {w : World} {o : Oper} {a : Act} {v : V} {c : Value}
    (h : (execOp a.eval o).run P w = .ok (.value c) w) (hv : RV bs Z w v c) : Yields P bs Z w o a v := by
  intro next Q hn
  unfold Oper.wp
  rw [h]
  exact hn c w Z (Grow.refl _ _) hv

section cases
variable {P : Program} {tt : Tab} {bs : Bs} {Z : Nat → Prop} {w : World} {o : Oper} {a : Act} {v : V} {ps : List Prop}

theorem RV.bool {v : Bool} {c : Value} (h : RV bs Z w (vb v) c) : c = .bool v := by
  cases h with | d _ _ h => cases h; rfl
theorem RV.lit {v : Value} {c : Value} (h : RV bs Z w (.d (.v v)) c) : c = v := by
  cases h with | d _ _ h => cases h; rfl
theorem RV.mkb (b : Bool) : RV bs Z w (vb b) (.bool b) := .d _ _ (.v _ rfl)
theorem RV.mki (k : IntKind) (n : Int) : RV bs Z w (.d (.v (.int k n))) (.int k n) := .d _ _ (.v _ rfl)

theorem pick_sound {c x y : Operand} {vc vx vy : V} (ho : o.op = .pick c x y) (hc : RV bs Z w vc (a.eval c)) (hx : RV bs Z w vx (a.eval x)) (hy : RV bs Z w vy (a.eval y))
    (he : evPick vc vx vy = some (v, ps)) (hp : ∀ p ∈ ps, p) : Yields P bs Z w o a v := by
  unfold evPick at he
  split at he <;> simp at he <;> obtain ⟨rfl, rfl⟩ := he
  · rename_i b g p q
    have e1 := hc.bool
    have e3 := hy.bool
    have hp' : b = true → g = true := hp _ (by simp)
    cases hx with | when _ _ _ hx _ =>
    refine Yields.val (c := .bool (cond b p q)) ?_ (RV.mkb _)
    cases b with
    | true =>
      have e2 := (hx (hp' rfl)).bool
      simp [execOp, ho, e1, e2, asBool]
    | false => simp [execOp, ho, e1, e3, asBool]
  · rename_i b p g q
    have e1 := hc.bool
    have e2 := hx.bool
    have hp' : b = false → g = true := hp _ (by simp)
    cases hy with | when _ _ _ hy _ =>
    refine Yields.val (c := .bool (cond b p q)) ?_ (RV.mkb _)
    cases b with
    | false =>
      have e3 := (hy (hp' rfl)).bool
      simp [execOp, ho, e1, e3, asBool]
    | true => simp [execOp, ho, e1, e2, asBool]
  · rename_i b p q
    have e1 := hc.bool
    have e2 := hx.bool
    have e3 := hy.bool
    refine Yields.val (c := .bool (cond b p q)) ?_ (RV.mkb _)
    cases b <;> simp [execOp, ho, e1, e2, e3, asBool]

variable (hT : Tab.ok P tt)

theorem okO.rowL {o' : O} {xs : List V} {b k : Nat} (h : okO bs Z w o' (some (b, k))) (hr : o'.row = some xs) : ∃ (cs : Array Value) (t : TypeId), w.heap[b]? = some (.cells cs t (0, 0)) ∧ xs.length ≤ cs.size ∧ cs.size = k ∧
    RVL bs Z w xs (cs.toList.take xs.length) := by
  cases o' with
  | cells ys =>
    simp [O.row] at hr; subst hr
    obtain ⟨cs, t, h1, hk, h2, h3⟩ := h
    refine ⟨cs, t, h1, by omega, hk, by simp; omega, fun j x c hx hc => ?_⟩
    obtain ⟨c', hc', h4, h5⟩ := h3 j x hx
    rw [List.getElem?_take] at hc
    split at hc
    · have e : cs[j]? = some c := by simpa using hc
      rw [e] at hc'; simp at hc'; subst hc'
      exact ⟨h4, h5⟩
    · simp at hc
  | data ds =>
    simp [O.row] at hr; subst hr
    obtain ⟨cs, t, h1, hk, h2, h3⟩ := h
    refine ⟨cs, t, h1, by simp; omega, hk, RDL.toV ⟨by simp; omega, fun j x c hx hc => ?_⟩⟩
    obtain ⟨c', hc', h4, h5⟩ := h3 j x hx
    rw [List.getElem?_take] at hc
    split at hc
    · have e : cs[j]? = some c := by simpa using hc
      rw [e] at hc'; simp at hc'; subst hc'
      exact ⟨h4, h5⟩
    · simp at hc
  | fixed ds =>
    simp [O.row] at hr; subst hr
    obtain ⟨cs, t, h1, hk, h2, h3⟩ := h
    refine ⟨cs, t, h1, by simp; omega, hk, RDL.toV ⟨by simp; omega, fun j x c hx hc => ?_⟩⟩
    obtain ⟨c', hc', h4, h5⟩ := h3 j x hx
    rw [List.getElem?_take] at hc
    split at hc
    · have e : cs[j]? = some c := by simpa using hc
      rw [e] at hc'; simp at hc'; subst hc'
      exact ⟨h4, h5⟩
    · simp at hc
  | map => simp [O.row] at hr
  | loop => simp [O.row] at hr

theorem InvW.row {Γ : Ctx} {H : List O} (hW : InvW Γ H bs Z w) {id : Nat} {xs : List V} (hr : rowAt H id = some xs) {b k : Nat} (hb : bs[id]? = some (some (b, k))) :
    ∃ (cs : Array Value) (t : TypeId), w.heap[b]? = some (.cells cs t (0, 0)) ∧ xs.length ≤ cs.size ∧ cs.size = k ∧ RVL bs Z w xs (cs.toList.take xs.length) := by
  unfold rowAt at hr
  rw [Option.bind_eq_some_iff] at hr
  obtain ⟨o', ho, hr⟩ := hr
  exact (hW.objs id o' _ ho hb).rowL hr

theorem InvW.row0 {Γ : Ctx} {H : List O} (hW : InvW Γ H bs Z w) {id : Nat} {xs : List V} (hr : rowAt H id = some xs) (hb : bs[id]? = some none) : xs = [] := by
  unfold rowAt at hr
  rw [Option.bind_eq_some_iff] at hr
  obtain ⟨o', ho, hr⟩ := hr
  have := hW.objs id o' _ ho hb
  cases o' <;> simp [O.row, okO] at hr this
  · rw [← hr, this]
  · rw [← hr, this]; rfl
  · rw [← hr, this]; rfl

theorem cell_at {b : Nat} {cs : Array Value} {t : TypeId} (h : w.heap[b]? = some (.cells cs t (0, 0))) (k j : Nat) : w.cell? ((⟨b, k, none⟩ : Addr).add j) = cs[k + j]? := by
  unfold Addr.add
  split
  · rename_i e; subst e; simp [World.cell?, h]
  · simp [World.cell?, h]

include hT

theorem load_sound {Γ : Ctx} {H : List O} (hW : InvW Γ H bs Z w) {t : TypeId} {x : Operand} {i : TI} {h : Hint} {vx : V} (ho : o.op = .load t x) (hx : RV bs Z w vx (a.eval x)) (hi : tt.lookup t = some i)
    (he : evLoad i h H vx = some (v, ps)) (hp : ∀ p ∈ ps, p) : Yields P bs Z w o a v := by
  have key : ∀ (ad : Addr) (cs : List Value), a.eval x = .pointer (some ad) → cs.length = i.size → (i.agg = false → i.size = 1) → (∀ (j : Nat) v, cs[j]? = some v → w.cell? (ad.add j) = some v) →
      RV bs Z w v (valOf i.agg cs) → Yields P bs Z w o a v := by
    intro ad cs h1 h2 h3 h4 h5
    refine Yields.val (c := valOf i.agg cs) ?_ h5
    simp [execOp, ho, Instr.loadAt, h1, Instr.sureAddr, run_loadVar hT hi h2 h3 h4]
  unfold evLoad at he
  have hsz : ∀ {vs : List V} {v : V}, mkVal i.agg vs = some v → vs.length = i.size → i.agg = false → i.size = 1 := by
    intro vs v hm hl ha
    unfold mkVal at hm
    simp [ha] at hm
    split at hm <;> simp at hm
    rw [← hl]; rfl
  have href : ∀ {id off : Nat} {xs : List V}, vx = .ref id off → rowAt H id = some xs → ∀ vs, (xs.drop off).take i.size = vs → vs.length = i.size → mkVal i.agg vs = some v →
      Yields P bs Z w o a v := by
    intro id off xs e hH vs h1 h2 h3
    subst e
    generalize hc : a.eval x = c at hx
    cases hx with | ref _ _ b k hb =>
    obtain ⟨cs, ty, g1, g2, _, g3⟩ := hW.row hH hb
    have g4 := (g3.drop off).take i.size
    rw [h1] at g4
    refine key _ _ hc (by rw [g4.1, h2]) (hsz h3 h2) (fun j u hu => ?_) (RV.mkVal g4 h3)
    rw [cell_at g1]
    simp only [List.getElem?_take, List.getElem?_drop] at hu
    split at hu
    · split at hu
      · simpa using hu
      · simp at hu
    · simp at hu
  have hrop : ∀ {cells : List D}, vx = .rop cells → ∀ (ds : List D) (y : D), cells.take i.size = ds → ds.length = i.size → mkD i.agg ds = some y → v = .d y → Yields P bs Z w o a v := by
    intro cells e ds y h1 h2 h3 h4
    subst e; subst h4
    generalize hc : a.eval x = c at hx
    cases hx with | rop _ ad f hz hcell h1' hr =>
    have hdl : i.size ≤ cells.length := by rw [← h1] at h2; simp at h2; omega
    have hR : RDL Z w ds ((List.range i.size).map f) := by
      refine ⟨by simp [h2], fun j x c hx hc => ?_⟩
      have hj : j < i.size := by rw [← h2]; exact (List.getElem?_eq_some_iff.1 hx).1
      simp [hj] at hc
      subst hc
      rw [← h1, List.getElem?_take, if_pos hj] at hx
      exact ⟨h1' j (by omega), hr j x hx⟩
    refine key ad _ hc (by simp) (fun ha => ?_) (fun j u hu => ?_) (.d _ _ (RD.mkD hR h3))
    · unfold mkD at h3
      simp [ha] at h3
      split at h3 <;> simp at h3
      rw [← h2]; rfl
    · have hj : j < i.size := by
        have := (List.getElem?_eq_some_iff.1 hu).1
        simpa using this
      simp [hj] at hu
      subst hu
      exact hcell j (by omega)
  split at he
  · split at he
    · rename_i hH
      simp only [Option.map_eq_some_iff, Prod.mk.injEq] at he
      obtain ⟨v', hm, rfl, rfl⟩ := he
      have hl := hp _ (List.mem_singleton.2 rfl)
      exact href rfl hH _ hl.1 hl.2 hm
    · rename_i hH _
      simp only [Option.map_eq_some_iff, Option.bind_eq_some_iff, Prod.mk.injEq] at he
      obtain ⟨v', ⟨vs, hs, hm⟩, rfl, rfl⟩ := he
      have := takeN_eq hs
      exact href rfl hH vs this.1 this.2 hm
    · simp at he
  · simp only [Option.map_eq_some_iff, Option.bind_eq_some_iff, Prod.mk.injEq] at he
    obtain ⟨x', ⟨ds, h1, h2⟩, rfl, rfl⟩ := he
    have := takeN_eq h1
    exact hrop rfl ds x' this.1 this.2 h2 rfl
  · simp at he

end cases
end Go.Sx
