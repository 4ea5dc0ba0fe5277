/- Soundness of the evaluator: parts, indexes, slices, literals, calls. -/
import Derived.Test.YtadejgckgnbaoaaSxSound3
namespace Go.Sx
open Go

section cases
variable {P : Program} {tt : Tab} {bs : Bs} {Z : Nat → Prop} {w : World} {o : Oper} {a : Act} {v : V} {ps : List Prop}

theorem RD.aggL {ds : List D} {c : Value} (h : RD Z w (.agg ds) c) : ∃ cs : Array Value, c = .agg cs ∧ RDL Z w ds cs.toList := by
  cases h with
  | agg _ cs f hl hf h1 hr =>
    refine ⟨cs, rfl, by simpa using hl, fun j x c hx hc => ?_⟩
    have hj : j < ds.length := (List.getElem?_eq_some_iff.1 hx).1
    have := hf j (by omega)
    simp at hc
    rw [hc] at this; simp at this; subst this
    exact ⟨h1 j hj, hr j x hx⟩

theorem RV.aggL {vs : List V} {c : Value} (h : RV bs Z w (.agg vs) c) : ∃ cs : Array Value, c = .agg cs ∧ RVL bs Z w vs cs.toList := by
  cases h with
  | agg _ cs f hl hf h1 hr =>
    refine ⟨cs, rfl, by simpa using hl, fun j x c hx hc => ?_⟩
    have hj : j < vs.length := (List.getElem?_eq_some_iff.1 hx).1
    have := hf j (by omega)
    simp at hc
    rw [hc] at this; simp at this; subst this
    exact ⟨h1 j hj, hr j x hx⟩

theorem RDL.take {vs : List D} {cs : List Value} (h : RDL Z w vs cs) (n : Nat) : RDL Z w (vs.take n) (cs.take n) := by
  have := (RVL.take (RDL.toV (bs := []) h) n)
  rw [← List.map_take] at this
  exact this.toD
theorem RDL.drop {vs : List D} {cs : List Value} (h : RDL Z w vs cs) (n : Nat) : RDL Z w (vs.drop n) (cs.drop n) := by
  have := (RVL.drop (RDL.toV (bs := []) h) n)
  rw [← List.map_drop] at this
  exact this.toD

/-- The part of an aggregate's cells. -/
theorem run_part {t : TypeId} {s : Nat} {g : Bool} {cs : Array Value} {off : Nat} {ys : List Value} (h1 : (isAgg t).run P w = .ok g w) (h2 : (sizeOf t).run P w = .ok s w)
    (hy : (cs.toList.drop off).take s = ys) (hl : ys.length = s) (hs : g = false → s = 1) : (part t cs off).run P w = .ok (valOf g ys) w := by
  unfold part
  simp only [Sem.run_bind, h1, Result.andThen_ok]
  cases g with
  | true =>
    simp only [if_true, Sem.run_bind, h2, Result.andThen_ok, Sem.run_pure, valOf]
    congr 2
    apply Array.ext'
    rw [← hy]
    rw [Array.toList_extract, List.extract_eq_take_drop]
    congr 1
    omega
  | false =>
    have := hs rfl
    subst this
    simp only [Bool.false_eq_true, if_false]
    match ys, hl with
    | [c], _ =>
      have : cs[off]? = some c := by
        have : ((cs.toList.drop off).take 1)[0]? = some c := by rw [hy]; rfl
        simpa [List.getElem?_take, List.getElem?_drop] using this
      simp [this, valOf]

theorem mkVal_one {g : Bool} {vs : List V} (h : mkVal g vs = some v) {s : Nat} (hl : vs.length = s) : g = false → s = 1 := by
  intro hg
  subst hg
  simp [mkVal] at h
  split at h <;> simp at h
  simpa using hl.symm
theorem mkD_one {g : Bool} {vs : List D} {x : D} (h : mkD g vs = some x) {s : Nat} (hl : vs.length = s) : g = false → s = 1 := by
  intro hg
  subst hg
  simp [mkD] at h
  split at h <;> simp at h
  simpa using hl.symm

variable (hT : Tab.ok P tt)
include hT

theorem field_sound {s : TypeId} {x : Operand} {f : Nat} {i : TI} {vx : V} (ho : o.op = .field s x f) (hx : RV bs Z w vx (a.eval x)) (hi : tt.lookup s = some i)
    (he : evField i f vx = some (v, ps)) : Yields P bs Z w o a v := by
  unfold evField at he
  split at he
  · rename_i ds
    cases hx with | d _ _ hx =>
    obtain ⟨cs, hc, hR⟩ := hx.aggL
    split at he
    · rename_i fs hk
      simp only [Option.map_eq_some_iff, Option.bind_eq_some_iff, Prod.mk.injEq] at he
      obtain ⟨p, hp, y, ⟨es, h1, h2⟩, rfl, rfl⟩ := he
      obtain ⟨fields, fl, g1, g2, g3, g4, g5, g6⟩ := struct_field hT hi hk hp
      have ht := takeN_eq h1
      have hR' := (hR.drop p.1).take p.2.1
      rw [ht.1] at hR'
      refine Yields.val (c := valOf p.2.2 ((cs.toList.drop p.1).take p.2.1)) ?_ (.d _ _ (RD.mkD hR' h2))
      have := run_part (P := P) (w := w) (cs := cs) (off := p.1) (g6 w) (g4 w) rfl (by rw [hR'.1, ht.2]) (mkD_one h2 ht.2)
      simp [execOp, ho, Instr.field, g1, g2, hc, asAgg, g3, this]
    · simp at he
  · rename_i us
    obtain ⟨cs, hc, hR⟩ := hx.aggL
    split at he
    · rename_i fs hk
      simp only [Option.map_eq_some_iff, Option.bind_eq_some_iff, Prod.mk.injEq] at he
      obtain ⟨p, hp, y, ⟨es, h1, h2⟩, rfl, rfl⟩ := he
      obtain ⟨fields, fl, g1, g2, g3, g4, g5, g6⟩ := struct_field hT hi hk hp
      have ht := takeN_eq h1
      have hR' := (hR.drop p.1).take p.2.1
      rw [ht.1] at hR'
      refine Yields.val (c := valOf p.2.2 ((cs.toList.drop p.1).take p.2.1)) ?_ (RV.mkVal hR' h2)
      have := run_part (P := P) (w := w) (cs := cs) (off := p.1) (g6 w) (g4 w) rfl (by rw [hR'.1, ht.2]) (mkVal_one h2 ht.2)
      simp [execOp, ho, Instr.field, g1, g2, hc, asAgg, g3, this]
    · simp at he
  · simp at he

theorem kind_slice {t e : TypeId} {i : TI} (hi : tt.lookup t = some i) (hk : i.kind = .slice e) (w : World) : (underlying t).run P w = .ok (.slice e) w := by
  obtain ⟨d, h1, h2, h3⟩ := (hT t i hi).kind
  rw [hk] at h2
  cases h2
  exact run_underlying h1 w
theorem kind_array {t e n : TypeId} {i : TI} (hi : tt.lookup t = some i) (hk : i.kind = .array n e) (w : World) : (underlying t).run P w = .ok (.array n e) w := by
  obtain ⟨d, h1, h2, h3⟩ := (hT t i hi).kind
  rw [hk] at h2
  cases h2
  exact run_underlying h1 w
theorem kind_int {t : TypeId} {k : IntKind} {i : TI} (hi : tt.lookup t = some i) (hk : i.kind = .int k) (w : World) : (underlying t).run P w = .ok (.int k) w := by
  obtain ⟨d, h1, h2, h3⟩ := (hT t i hi).kind
  rw [hk] at h2
  cases h2
  exact run_underlying h1 w

theorem indexAddr_sound {t : TypeId} {x y : Operand} {i : TI} {h : Hint} {vx vy : V} (ho : o.op = .indexAddr t x y) (hx : RV bs Z w vx (a.eval x)) (hy : RV bs Z w vy (a.eval y)) (hi : tt.lookup t = some i)
    (he : evIndexAddr tt i h vx vy = some (v, ps)) (hp : ∀ p ∈ ps, p) : Yields P bs Z w o a v := by
  generalize hc : a.eval x = c at hx
  generalize hd : a.eval y = d at hy
  unfold evIndexAddr at he
  split at he
  · -- a frozen list
    rename_i tight e n cells k q
    have ey := hy.lit
    subst ey
    cases hx with | d _ _ hx =>
    split at he
    · rename_i u ec hk
      simp only [Option.bind_eq_some_iff] at he
      obtain ⟨it, h1, h2⟩ := he
      split at h2
      · rename_i hsz
        simp at hsz
        simp only [Option.some.injEq, Prod.mk.injEq] at h2
        obtain ⟨rfl, rfl⟩ := h2
        obtain ⟨k0, kn, kt, kl⟩ := hp _ (List.mem_singleton.2 rfl)
        have hn : 0 < n := by omega
        obtain ⟨ad, cap, rfl, hcap, _, hl, hrop⟩ := hx.asRop (bs := bs) hn
        have hr2 := (RV.rop_drop hrop (q.toNat * e)).rop_take e
        rw [kt] at hr2
        refine Yields.val ?_ hr2
        simp [execOp, ho, Instr.indexAt, hc, hd, asIntOf, kind_slice hT hi hk, run_size hT h1, hsz, k0, kn]
      · simp at h2
    · simp at he
  · rename_i e id off n k q
    have ey := hy.lit
    subst ey
    split at he
    · rename_i u hk
      simp only [Option.bind_eq_some_iff] at he
      obtain ⟨it, h1, h2⟩ := he
      split at h2
      · simp only [Option.some.injEq, Prod.mk.injEq] at h2
        obtain ⟨rfl, rfl⟩ := h2
        obtain ⟨k0, kn⟩ := hp _ (List.mem_singleton.2 rfl)
        cases hx with
        | sl0 => simp at kn; omega
        | sl _ _ _ _ b k cap hb hcap =>
          refine Yields.val (c := .pointer (some ⟨b, off + q.toNat * it.size, none⟩)) ?_ (.ref _ _ b k hb)
          simp [execOp, ho, Instr.indexAt, hc, hd, asIntOf, kind_slice hT hi hk, run_size hT h1, k0, kn, addr_add]
      · simp at h2
    · simp at he
  · rename_i id off k q
    have ey := hy.lit
    subst ey
    split at he
    · rename_i n u hk
      simp only [Option.map_eq_some_iff, Prod.mk.injEq] at he
      obtain ⟨it, h1, rfl, rfl⟩ := he
      obtain ⟨k0, kn⟩ := hp _ (List.mem_singleton.2 rfl)
      cases hx with | ref _ _ b kk hb =>
      refine Yields.val (c := .pointer (some ⟨b, off + q.toNat * it.size, none⟩)) ?_ (.ref _ _ b kk hb)
      simp [execOp, ho, Instr.indexAt, hc, hd, asIntOf, kind_array hT hi hk, run_size hT h1, k0, kn, addr_add, Instr.sureAddr]
    · simp at he
  · rename_i cells k q
    have ey := hy.lit
    subst ey
    split at he
    · rename_i n u ec hk
      simp only [Option.map_eq_some_iff, Prod.mk.injEq] at he
      obtain ⟨it, h1, rfl, rfl⟩ := he
      obtain ⟨k0, kn, kt, kl⟩ := hp _ (List.mem_singleton.2 rfl)
      cases hx with | rop _ ad g hz hcell h1' hr =>
      have hr2 := (RV.rop_drop (.rop cells ad g hz hcell h1' hr : RV bs Z w _ _) (q.toNat * it.size)).rop_take it.size
      rw [kt] at hr2
      refine Yields.val ?_ hr2
      simp [execOp, ho, Instr.indexAt, hc, hd, asIntOf, kind_array hT hi hk, run_size hT h1, k0, kn, Instr.sureAddr]
    · simp at he
  · simp at he

theorem index_sound {t : TypeId} {x y : Operand} {i : TI} {h : Hint} {vx vy : V} (ho : o.op = .index t x y) (hx : RV bs Z w vx (a.eval x)) (hy : RV bs Z w vy (a.eval y)) (hi : tt.lookup t = some i)
    (he : evIndex tt i h vx vy = some (v, ps)) (hp : ∀ p ∈ ps, p) : Yields P bs Z w o a v := by
  generalize hc : a.eval x = c at hx
  generalize hd : a.eval y = d at hy
  unfold evIndex at he
  split at he
  · rename_i cells k q
    have ey := hy.lit
    subst ey
    cases hx with | d _ _ hx =>
    obtain ⟨cs, rfl, hR⟩ := hx.aggL
    split at he
    · rename_i n u ec hk
      simp only [Option.map_eq_some_iff, Option.bind_eq_some_iff, Prod.mk.injEq] at he
      obtain ⟨it, h1, y, h2, rfl, rfl⟩ := he
      obtain ⟨k0, kn, kt, kl⟩ := hp _ (List.mem_singleton.2 rfl)
      have hR' := (hR.drop (q.toNat * it.size)).take it.size
      rw [kt] at hR'
      have := run_part (P := P) (w := w) (cs := cs) (off := q.toNat * it.size) (run_isAgg hT h1 w) (run_size hT h1 w) rfl (by rw [hR'.1, kl]) (mkD_one h2 kl)
      refine Yields.val ?_ (.d _ _ (RD.mkD hR' h2))
      simp [execOp, ho, Instr.index, hc, hd, asIntOf, kind_array hT hi hk, run_size hT h1, k0, kn, this]
    · simp at he
  · simp at he

theorem convert_sound {s t : TypeId} {x : Operand} {i i' : TI} {vx : V} (ho : o.op = .convert s t x) (hx : RV bs Z w vx (a.eval x)) (hs : tt.lookup s = some i') (hi : tt.lookup t = some i)
    (he : evConvert i vx = some (v, ps)) : Yields P bs Z w o a v := by
  unfold evConvert at he
  split at he
  · have ex := hx.lit
    split at he
    · rename_i k n _ k' hk
      simp only [Option.some.injEq, Prod.mk.injEq] at he
      obtain ⟨rfl, rfl⟩ := he
      obtain ⟨d, h1, _, _⟩ := run_und hT hs w
      refine Yields.val ?_ (RV.mki _ _)
      simp [execOp, ho, convert, h1, kind_int hT hi hk, ex, Conv.intToInt]
    · simp at he
  · simp at he

end cases
end Go.Sx
