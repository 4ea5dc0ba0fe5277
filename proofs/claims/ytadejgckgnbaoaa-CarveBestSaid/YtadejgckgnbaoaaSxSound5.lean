/- Soundness of the evaluator: slices, lengths, literals, calls that only read. -/
import Derived.Test.YtadejgckgnbaoaaSxSound4
namespace Go.Sx
open Go
set_option linter.unusedSimpArgs false
set_option linter.unusedVariables false

section cases
variable {P : Program} {tt : Tab} {bs : Bs} {Z : Nat → Prop} {w : World} {o : Oper} {a : Act} {v : V} {ps : List Prop}

theorem RV.asList {cells : List D} {ad : Addr} {e m cap : Nat} (h : RV bs Z w (.rop cells) (.pointer (some ad))) (hm : 0 < m) (hl : cells.length = m * e) (hc : m ≤ cap) (t : Bool) (ht : t = true → cap = m) :
    RD Z w (.list t e m cells) (.slice (some ad) m cap) := by
  cases h with | rop _ _ f hz hcell h1 hr => exact .list t e m cells ad cap f hm hl hz hc ht hcell h1 hr

theorem run_bounds {lo hi : Option Operand} {get : Operand → V} {n cap : Nat} {l u : Int} (b : Bool)
    (hlo : ∀ x ∈ lo, RV bs Z w (get x) (a.eval x)) (hhi : ∀ x ∈ hi, RV bs Z w (get x) (a.eval x))
    (h1 : boundI (lo.map get) 0 = some l) (h2 : boundI (hi.map get) n = some u) (h0 : 0 ≤ l) (hlu : l ≤ u) (hun : u ≤ n) (hc : n ≤ cap) :
    (Instr.sliceBounds b n cap (lo.map a.eval) (hi.map a.eval) none).run P w = .ok (l.toNat, u.toNat, cap) w := by
  have key : ∀ (x : Option Operand) (z : Int) (k : Int) (dflt : Int), (∀ y ∈ x, RV bs Z w (get y) (a.eval y)) → boundI (x.map get) dflt = some k →
      (x = none ∧ k = dflt) ∨ ∃ y kk, x = some y ∧ a.eval y = .int kk k := by
    intro x z k dflt hx hb
    cases x with
    | none => simp [boundI] at hb; exact .inl ⟨rfl, hb.symm⟩
    | some y =>
      have h := hx y rfl
      simp only [Option.map_some] at hb
      generalize get y = g at h hb
      unfold boundI at hb
      split at hb
      · rename_i heq; simp at heq
      · rename_i heq
        simp at heq; subst heq
        simp at hb; subst hb
        exact .inr ⟨y, _, rfl, h.lit⟩
      · simp at hb
  have hu0 : 0 ≤ u := by omega
  unfold Instr.sliceBounds
  rcases key hi 0 u n hhi h2 with ⟨rfl, rfl⟩ | ⟨y, ky, rfl, ey⟩ <;> rcases key lo 0 l 0 hlo h1 with ⟨rfl, rfl⟩ | ⟨x, kx, rfl, ex⟩
  · simp
  · simp [Instr.sliceBound, ex, asIntOf, h0, hlu]
  · have : u ≤ (cap : Int) := by omega
    simp [Instr.sliceBound, ey, asIntOf, hu0, this]
  · have : u ≤ (cap : Int) := by omega
    have : l ≤ (u.toNat : Int) := by omega
    have h3 : ¬ (max u 0 < l) := by omega
    simp [Instr.sliceBound, ex, ey, asIntOf, h0, hu0, *]

variable (hT : Tab.ok P tt)
include hT

theorem slice_sound {Γ : Ctx} {H : List O} (hW : InvW Γ H bs Z w) {t : TypeId} {x : Operand} {lo hi : Option Operand} {get : Operand → V} {i : TI} {h : Hint} {vx : V} (ho : o.op = .slice t x lo hi none) (hx : RV bs Z w vx (a.eval x))
    (hlo : ∀ x ∈ lo, RV bs Z w (get x) (a.eval x)) (hhi : ∀ x ∈ hi, RV bs Z w (get x) (a.eval x)) (hti : tt.lookup t = some i)
    (he : evSlice tt i h H (lo.map get) (hi.map get) vx = some (v, ps)) (hp : ∀ p ∈ ps, p) : Yields P bs Z w o a v := by
  generalize hc : a.eval x = c at hx
  unfold evSlice at he
  split at he
  · -- frozen
    rename_i tight e n cells
    cases hx with | d _ _ hx =>
    split at he
    · rename_i ty m out l u hk hl hu
      simp only [Option.bind_eq_some_iff] at he
      obtain ⟨it, h1, h2⟩ := he
      split at h2
      · rename_i hsz
        simp at hsz
        simp only [Option.some.injEq, Prod.mk.injEq] at h2
        obtain ⟨rfl, rfl⟩ := h2
        obtain ⟨q0, q1, q2, q3, q4⟩ := hp _ (List.mem_singleton.2 rfl)
        have key : ∀ (ad : Option Addr) (cap : Nat), c = .slice ad n cap → n ≤ cap →
            (execOp a.eval o).run P w = .ok (.value (.slice (if cap = l.toNat then ad else ad.map (·.add (l.toNat * it.size))) (u.toNat - l.toNat) (cap - l.toNat))) w := by
          intro ad cap e1 hcap
          have := run_bounds (P := P) (w := w) (a := a) (cap := cap) true hlo hhi hl hu q0 q1 q2 hcap
          simp [execOp, ho, Instr.sliceAt, kind_slice hT hti hk, Instr.slice, hc, e1, this, run_size hT h1]
        have hm : u.toNat - l.toNat = m := by omega
        cases hx with
        | list0 _ _ ad cap ht =>
          have e0 : m = 0 := by omega
          have e1 : out = [] := by rw [q4, e0]; simp
          refine Yields.val (key ad cap rfl (Nat.zero_le _)) (.d _ _ ?_)
          rw [hm, e0, e1]
          exact .list0 _ _ _ _ (by simp)
        | list _ _ _ _ ad cap f hn hl' hz hcap ht hcell h1' hr =>
          refine Yields.val (key (some ad) cap rfl hcap) (.d _ _ ?_)
          rw [hm]
          by_cases hm0 : m = 0
          · have e1 : out = [] := by rw [q4, hm0]; simp
            rw [hm0, e1]
            exact .list0 _ _ _ _ (by simp)
          · rw [if_neg (by omega)]
            have hr2 := (RV.rop_drop (.rop cells ad f hz hcell h1' hr : RV bs Z w _ _) (l.toNat * e)).rop_take (m * e)
            rw [← q4] at hr2
            simp only [Option.map_some, hsz]
            refine hr2.asList (by omega) ?_ (by omega) false (by simp)
            rw [q4, List.length_take, List.length_drop, hl']
            have h3 : l.toNat * e + m * e ≤ n * e := by rw [← Nat.add_mul]; exact Nat.mul_le_mul_right _ (by omega)
            omega
      · simp at h2
    · simp at he
  · rename_i e id off n
    split at he
    · rename_i ty l u hk hl hu
      simp only [Option.bind_eq_some_iff] at he
      obtain ⟨it, h1, h2⟩ := he
      split at h2
      · rename_i hsz
        simp at hsz
        simp only [Option.some.injEq, Prod.mk.injEq] at h2
        obtain ⟨rfl, rfl⟩ := h2
        obtain ⟨q0, q1, q2, q3⟩ := hp _ (List.mem_singleton.2 rfl)
        have key : ∀ (ad : Option Addr) (cap : Nat), c = .slice ad n cap → n ≤ cap →
            (execOp a.eval o).run P w = .ok (.value (.slice (if cap = l.toNat then ad else ad.map (·.add (l.toNat * it.size))) (u.toNat - l.toNat) (cap - l.toNat))) w := by
          intro ad cap e1 hcap
          have := run_bounds (P := P) (w := w) (a := a) (cap := cap) true hlo hhi hl hu q0 q1 q2 hcap
          simp [execOp, ho, Instr.sliceAt, kind_slice hT hti hk, Instr.slice, hc, e1, this, run_size hT h1]
        have hm : u.toNat - l.toNat = (u - l).toNat := by omega
        cases hx with
        | sl0 _ _ hb =>
          refine Yields.val (key none 0 rfl (Nat.zero_le _)) ?_
          have e1 : l = 0 := by simp at q2; omega
          have e2 : u = 0 := by simp at q2; omega
          subst e1; subst e2
          simpa using (RV.sl0 e id hb : RV bs Z w _ _)
        | sl _ _ _ _ b k cap hb hcap hkk hmm =>
          refine Yields.val (key (some ⟨b, off, none⟩) cap rfl hcap) ?_
          rw [hm]
          have e1 : (if cap = l.toNat then some (⟨b, off, none⟩ : Addr) else (some (⟨b, off, none⟩ : Addr)).map (·.add (l.toNat * it.size))) = some ⟨b, off + l.toNat * it.size, none⟩ := by
            split
            · rename_i e
              have : l = 0 := by rcases q3 with h | h <;> omega
              subst this; simp
            · simp [addr_add]
          rw [e1]
          refine .sl e id _ _ b k _ hb (by omega) ?_ (by omega)
          rw [hsz]
          have : l.toNat * e + (cap - l.toNat) * e = cap * e := by rw [← Nat.add_mul]; congr 1; omega
          omega
      · simp at h2
    · simp at he
  · rename_i id off
    split at he
    · rename_i n ty hk
      split at he
      · rename_i l u xs hl hu hH
        simp only [Option.map_eq_some_iff, Prod.mk.injEq] at he
        obtain ⟨it, h1, rfl, rfl⟩ := he
        obtain ⟨q0, q1, q2, q3, q4, q5⟩ := hp _ (List.mem_singleton.2 rfl)
        cases hx with | ref _ _ b k hb =>
        obtain ⟨cs, ty, _, g2, g3, _⟩ := hW.row hH hb
        have hbd := run_bounds (P := P) (w := w) (a := a) (cap := n) false hlo hhi hl hu q0 q1 q2 (Nat.le_refl _)
        refine Yields.val (c := .slice (some (if n = l.toNat then (⟨b, off, none⟩ : Addr) else (⟨b, off, none⟩ : Addr).add (l.toNat * it.size))) (u.toNat - l.toNat) (n - l.toNat)) ?_ ?_
        · simp [execOp, ho, Instr.sliceAt, kind_array hT hti hk, hc, Instr.sureAddr, hbd, run_size hT h1]
        · have e1 : (if n = l.toNat then (⟨b, off, none⟩ : Addr) else (⟨b, off, none⟩ : Addr).add (l.toNat * it.size)) = ⟨b, off + l.toNat * it.size, none⟩ := by
            split
            · have : l = 0 := by rcases q3 with h | h <;> omega
              subst this; simp
            · simp [addr_add]
          rw [e1, show u.toNat - l.toNat = (u - l).toNat by omega]
          refine .sl it.size id _ _ b k _ hb (by omega) ?_ (by omega)
          have : l.toNat * it.size + (n - l.toNat) * it.size = n * it.size := by rw [← Nat.add_mul]; congr 1; omega
          omega
      · simp at he
    · simp at he
  · simp at he

omit hT in
theorem run_len {c : Call} {x : Operand} {m : Nat} (ho : o.op = .call c) (hc : c.callee = .builtin .len) (ha : c.args.toList = [x]) (hr : ∀ t, (Builtin.len_ c.argTypes t #[a.eval x]).run P w = .ok (goInt m) w) :
    (execOp a.eval o).run P w = .ok (.value (goInt m)) w := by
  obtain ⟨callee, ⟨args⟩, tys⟩ := c
  simp at ha hc
  subst ha; subst hc
  simp at hr
  simp [execOp, ho, resolve, invoke, builtin, hr]

end cases

section build
variable {P : Program} {tt : Tab} {bs : Bs} {Z : Nat → Prop} {w : World} {o : Oper} {a : Act} {v : V} {ps : List Prop}

theorem fold_putAt (us : List Value) : ∀ (k : Nat) (cs : Array Value) (off : Nat), ((us.zipIdx k).foldl (fun cs (x : Value × Nat) => cs.setIfInBounds (off + x.2) x.1) cs).toList = putAt cs.toList (off + k) us := by
  induction us with
  | nil => intro k cs off; rfl
  | cons u us ih =>
    intro k cs off
    simp only [List.zipIdx_cons, List.foldl_cons, putAt]
    rw [ih]
    simp [Nat.add_assoc]

theorem fill_sound {place : Nat → Option (Nat × Nat)} {get : Operand → V} : ∀ (parts : List (Nat × Operand)) (vs : List V) (cs : Array Value) (out : List V),
    RVL bs Z w vs cs.toList → (∀ p ∈ parts, RV bs Z w (get p.2) (a.eval p.2)) → buildFrom place get vs parts = some out →
    ∃ ds : Array Value, Instr.fill place cs (parts.map fun p => (p.1, a.eval p.2)) = some ds ∧ RVL bs Z w out ds.toList := by
  intro parts
  induction parts with
  | nil => intro vs cs out h _ he; simp [buildFrom] at he; subst he; exact ⟨cs, rfl, h⟩
  | cons p ps ih =>
    intro vs cs out h hx he
    obtain ⟨i, x⟩ := p
    unfold buildFrom at he
    split at he
    · rename_i off s us hpl hcl
      split at he
      · rename_i hcond
        simp at hcond
        obtain ⟨hl, hle⟩ := hcond
        have hr := (hx (i, x) (by simp)).one hcl
        have hsz : (a.eval x).cells.size = s := by have := hr.1; simp at this; omega
        have hcs : cs.size = vs.length := by simpa using h.1
        have h2 := RVL.putAt off h hr
        have e := fold_putAt (a.eval x).cells.toList 0 cs off
        obtain ⟨ds, hd1, hd2⟩ := ih _ ((a.eval x).cells.zipIdx.foldl (fun cs (c, j) => cs.setIfInBounds (off + j) c) cs) out (by
          rw [← Array.foldl_toList, Array.toList_zipIdx, e]
          simpa using h2) (fun p hp => hx p (by simp [hp])) he
        refine ⟨ds, ?_, hd2⟩
        simp only [List.map_cons, Instr.fill, hpl]
        rw [if_neg]
        · exact hd1
        · simp [hsz]; omega
      · simp at he
    · simp at he

variable (hT : Tab.ok P tt)
include hT

theorem zero_rel {t : TypeId} {i : TI} (hi : tt.lookup t = some i) (z : Value) (hz : z.cells.toList = i.zero) : RVL bs Z w (i.zero.map fun z => .d (.v z)) z.cells.toList := by
  rw [hz]
  refine ⟨by simp, fun j x c hx hc => ?_⟩
  rw [List.getElem?_map, hc] at hx
  simp at hx
  subst hx
  have := (hT t i hi).ones c (List.mem_of_getElem? hc)
  exact ⟨this, .d _ _ (.v _ this)⟩

omit hT in
theorem run_mapM_list {α β : Type} (F : α → Sem β) (g : α → β) : ∀ (xs : List α), (∀ x ∈ xs, (F x).run P w = .ok (g x) w) → (xs.mapM F).run P w = .ok (xs.map g) w := by
  intro xs
  induction xs with
  | nil => intro _; simp
  | cons x xs ih =>
    intro h
    have h1 := h x (by simp)
    have h2 := ih fun y hy => h y (by simp [hy])
    simp only [List.mapM_cons, Sem.run_bind, h1, Result.andThen_ok, h2, Sem.run_pure, List.map_cons]
omit hT in
theorem run_mapM_arr {α β : Type} (F : α → Sem β) (g : α → β) (xs : Array α) (h : ∀ x ∈ xs, (F x).run P w = .ok (g x) w) : (xs.mapM F).run P w = .ok (xs.map g) w := by
  rw [Array.mapM_eq_mapM_toList, Sem.run_map, run_mapM_list F g xs.toList (fun x hx => h x (by simpa using hx))]
  simp only [Result.andThen_ok]
  congr 1
  apply Array.ext'
  simp

theorem build_sound {t : TypeId} {parts : Array (Nat × Operand)} {get : Operand → V} {i : TI} (ho : o.op = .build t parts) (hx : ∀ p ∈ parts.toList, RV bs Z w (get p.2) (a.eval p.2))
    (hi : tt.lookup t = some i) (he : evBuild i get parts.toList (fun e => (tt.lookup e).map (·.size)) = some (v, ps)) : Yields P bs Z w o a v := by
  obtain ⟨z, hz1, hz2⟩ := run_zero hT hi w
  have hz := zero_rel hT (bs := bs) (Z := Z) (w := w) hi z hz2
  have hmap : (parts.map fun (p : Nat × Operand) => (p.1, a.eval p.2)).toList = parts.toList.map fun p => (p.1, a.eval p.2) := by simp
  unfold evBuild at he
  split at he
  · rename_i fs hk
    simp only [Option.map_eq_some_iff, Prod.mk.injEq] at he
    obtain ⟨out, h1, rfl, rfl⟩ := he
    obtain ⟨d, g1, g2, g3⟩ := (hT t i hi).kind
    rw [hk] at g2
    obtain ⟨fields, rfl, hl, hall⟩ := g2
    obtain ⟨ds, hd1, hd2⟩ := fill_sound (a := a) parts.toList _ z.cells out hz hx h1
    have hplaces := run_mapM_arr (P := P) (w := w) (fun (f : Field) => do pure (f.offset, ← sizeOf f.type)) (fun f => (f.offset, P.cellsOf f.type)) fields (fun f hf => by
      obtain ⟨j, hj, e⟩ := Array.getElem_of_mem hf
      obtain ⟨inf, u, k1, k2, k3, k4⟩ := hall j f (by simp [hj, e])
      simp [sizeOf, typeInfo, k1, Program.cellsOf])
    have hpl : (fun (j : Nat) => (fields.map fun (f : Field) => (f.offset, P.cellsOf f.type))[j]?) = fun (j : Nat) => (fs[j]?).map fun (p : Nat × Nat × Bool) => (p.1, p.2.1) := by
      funext j
      by_cases hj : j < fields.size
      · obtain ⟨inf, u, k1, k2, k3, k4⟩ := hall j fields[j] (by simp [hj])
        rw [k3]
        simp [hj, Program.cellsOf, k1]
      · have : fs[j]? = none := List.getElem?_eq_none (by omega)
        rw [this]
        simp [hj]
    refine Yields.val (c := .agg ds) ?_ (by simpa using RV.mkAgg hd2)
    rw [← hpl] at hd1
    simp only [execOp, ho, Instr.build, Sem.run_bind, hz1, Result.andThen_ok, run_underlying g1, hplaces, hmap, hd1, Sem.run_pure]
  · rename_i n e hk
    simp only [Option.map_eq_some_iff, Option.bind_eq_some_iff, Prod.mk.injEq] at he
    obtain ⟨sz, ⟨it, h1, rfl⟩, out, h2, rfl, rfl⟩ := he
    obtain ⟨ds, hd1, hd2⟩ := fill_sound (a := a) parts.toList _ z.cells out hz hx h2
    refine Yields.val (c := .agg ds) ?_ (by simpa using RV.mkAgg hd2)
    simp only [execOp, ho, Instr.build, Sem.run_bind, hz1, Result.andThen_ok, kind_array hT hi hk, run_size hT h1, hmap, hd1, Sem.run_pure]
  · simp at he

omit hT in
/-- A slice's literal, filled in order. -/
theorem fillRow_sound {e : Nat} {get : Operand → V} : ∀ (parts : List (Nat × Operand)) (k : Nat) (vs : List V) (cs : Array Value),
    (∀ p ∈ parts, RV bs Z w (get p.2) (a.eval p.2)) → buildRow e get k parts = some vs → (k + parts.length) * e = cs.size →
    ∃ ds : Array Value, Instr.fill (fun i => some (i * e, e)) cs (parts.map fun p => (p.1, a.eval p.2)) = some ds ∧ ds.size = cs.size ∧ ds.toList.take (k * e) = cs.toList.take (k * e) ∧ RVL bs Z w vs (ds.toList.drop (k * e)) := by
  intro parts
  induction parts with
  | nil =>
    intro k vs cs _ he hs
    simp [buildRow] at he
    subst he
    simp at hs
    refine ⟨cs, rfl, rfl, rfl, ?_⟩
    rw [List.drop_of_length_le (by simp; omega)]
    exact RVL.nil
  | cons p ps ih =>
    intro k vs cs hx he hs
    obtain ⟨i, x⟩ := p
    unfold buildRow at he
    split at he
    · rename_i us hcl
      split at he
      · rename_i hcond
        simp at hcond
        obtain ⟨hl, rfl⟩ := hcond
        simp only [Option.map_eq_some_iff] at he
        obtain ⟨rest, h1, rfl⟩ := he
        have hr := (hx (i, x) (by simp)).one hcl
        have hsz : (a.eval x).cells.size = e := by have := hr.1; simp at this; omega
        have hfit : i * e + e ≤ cs.size := by
          rw [← hs]; simp only [List.length_cons, Nat.add_mul]; omega
        have ef := fold_putAt (a.eval x).cells.toList 0 cs (i * e)
        obtain ⟨ds, k1, k2, k3, k4⟩ := ih (i + 1) rest ((a.eval x).cells.zipIdx.foldl (fun cs (c, j) => cs.setIfInBounds (i * e + j) c) cs) (fun p hp => hx p (by simp [hp])) h1 (by
          have : ((a.eval x).cells.zipIdx.foldl (fun cs (c, j) => cs.setIfInBounds (i * e + j) c) cs).size = cs.size := by
            rw [← Array.length_toList, ← Array.foldl_toList, Array.toList_zipIdx, ef, putAt_length]; simp
          rw [this, ← hs]
          simp only [List.length_cons]
          congr 1
          omega)
        have hsize : ((a.eval x).cells.zipIdx.foldl (fun cs (c, j) => cs.setIfInBounds (i * e + j) c) cs).size = cs.size := by
          rw [← Array.length_toList, ← Array.foldl_toList, Array.toList_zipIdx, ef, putAt_length]; simp
        have htl : ((a.eval x).cells.zipIdx.foldl (fun cs (c, j) => cs.setIfInBounds (i * e + j) c) cs).toList = cs.toList.take (i * e) ++ (a.eval x).cells.toList ++ cs.toList.drop (i * e + e) := by
          rw [← Array.foldl_toList, Array.toList_zipIdx, ef, Nat.add_zero, putAt_eq _ _ _ (by simp; omega)]
          simp [hsz]
        refine ⟨ds, ?_, by rw [k2, hsize], ?_, ?_⟩
        · simp only [List.map_cons, Instr.fill]
          rw [if_neg]
          · exact k1
          · simp [hsz]; omega
        · have := congrArg (List.take (i * e)) k3
          rw [List.take_take, List.take_take, Nat.min_eq_left (by rw [Nat.add_mul]; omega), htl] at this
          rw [this]
          rw [List.append_assoc, List.take_append_of_le_length (by simp; omega), List.take_take, Nat.min_self]
        · have hsplit : ds.toList.drop (i * e) = (a.eval x).cells.toList ++ ds.toList.drop ((i + 1) * e) := by
            have h5 : ds.toList = ds.toList.take ((i + 1) * e) ++ ds.toList.drop ((i + 1) * e) := (List.take_append_drop _ _).symm
            have h6 : ds.toList.take ((i + 1) * e) = cs.toList.take (i * e) ++ (a.eval x).cells.toList := by
              rw [k3, htl, Nat.add_mul, Nat.one_mul, List.take_append_of_le_length (by simp [hsz]; omega), List.take_of_length_le (by simp [hsz]; omega)]
            have h7 : ds.toList.drop (i * e) = (cs.toList.take (i * e) ++ (a.eval x).cells.toList ++ ds.toList.drop ((i + 1) * e)).drop (i * e) := by rw [← h6, List.take_append_drop]
            rw [h7, List.append_assoc, List.drop_append_of_le_length (by simp; omega), List.drop_of_length_le (by simp; omega)]
            simp
          rw [hsplit]
          exact RVL.append hr k4
      · simp at he
    · simp at he

omit hT in
theorem Grow.alloc (Z : Nat → Prop) (w : World) (o : Obj) : Grow Z w (fun b => Z b ∨ b = w.heap.size) (w.alloc o) := by
  refine ⟨rfl, rfl, rfl, by simp, fun b hb => ?_, fun b h => .inl h, fun b h => ?_⟩
  · show (w.heap.push o)[b]? = _
    rw [Array.getElem?_push, if_neg (by omega)]
  · rcases h with h | h
    · exact .inl h
    · exact .inr ⟨by omega, by simp; omega⟩

omit hT in
theorem heap_alloc (w : World) (o : Obj) : (w.alloc o).heap[w.heap.size]? = some o := by
  show (w.heap.push o)[w.heap.size]? = _
  simp

theorem run_buildSlice {t : TypeId} {len : Nat} {parts : Array (Nat × Operand)} {get : Operand → V} {i : TI} {e : Nat} {vs : List V} (hx : ∀ p ∈ parts.toList, RV bs Z w (get p.2) (a.eval p.2))
    (hi : tt.lookup t = some i) (he : evBuildRow tt i get len parts.toList = some (e, vs)) :
    ∃ (cs : Array Value) (el : TypeId), (Instr.buildSlice t len (parts.map fun (i, x) => (i, a.eval x))).run P w = .ok (.slice (some ⟨w.heap.size, 0, none⟩) len len) (w.alloc (.cells cs el)) ∧
      RVL bs Z w vs cs.toList ∧ cs.size = len * e := by
  unfold evBuildRow at he
  split at he
  · rename_i el hk
    simp only [Option.bind_eq_some_iff] at he
    obtain ⟨it, h1, h2⟩ := he
    split at h2
    · rename_i hc
      simp at hc
      obtain ⟨hc1, hc2⟩ := hc
      simp only [Option.map_eq_some_iff, Prod.mk.injEq] at h2
      obtain ⟨us, h3, rfl, rfl⟩ := h2
      obtain ⟨z, hz1, hz2⟩ := run_zero hT h1 w
      have hmap : (parts.map fun (p : Nat × Operand) => (p.1, a.eval p.2)).toList = parts.toList.map fun p => (p.1, a.eval p.2) := by simp
      have hgo : ∀ zs : Array Value, ∃ ds : Array Value, Instr.fill (fun i => some (i * it.size, it.size)) ((Array.range (len * it.size)).map (zs[· % zs.size]!)) (parts.toList.map fun p => (p.1, a.eval p.2)) = some ds ∧
          RVL bs Z w us ds.toList ∧ ds.size = len * it.size := by
        intro zs
        obtain ⟨ds, k1, k2, k3, k4⟩ := fillRow_sound (a := a) (bs := bs) (Z := Z) (w := w) parts.toList 0 us ((Array.range (len * it.size)).map (zs[· % zs.size]!)) hx h3 (by simp [hc1])
        exact ⟨ds, k1, by simpa using k4, by rw [k2]; simp⟩
      by_cases h0 : len * it.size = 0
      · obtain ⟨ds, k1, k2, k3⟩ := hgo #[]
        refine ⟨ds, el, ?_, k2, k3⟩
        simp only [Instr.buildSlice, Sem.run_bind, kind_slice hT hi hk, Result.andThen_ok, run_size hT h1]
        rw [if_neg (by omega), if_pos h0]
        simp only [Sem.run_pure, Result.andThen_ok, Sem.run_bind, hmap, k1, newRow, run_newObj]
        rfl
      · obtain ⟨ds, k1, k2, k3⟩ := hgo z.cells
        refine ⟨ds, el, ?_, k2, k3⟩
        simp only [Instr.buildSlice, Sem.run_bind, kind_slice hT hi hk, Result.andThen_ok, run_size hT h1]
        rw [if_neg (by omega), if_neg h0]
        simp only [Sem.run_pure, Result.andThen_ok, Sem.run_bind, hz1, hmap, k1, newRow, run_newObj]
        rfl
    · simp at h2
  · simp at he

theorem buildSlice_sound {t : TypeId} {len : Nat} {parts : Array (Nat × Operand)} {get : Operand → V} {i : TI} {e : Nat} {vs : List V} {ds : List D} (ho : o.op = .buildSlice t len parts)
    (hzl : ∀ b, Z b → b < w.heap.size) (hx : ∀ p ∈ parts.toList, RV bs Z w (get p.2) (a.eval p.2))
    (hi : tt.lookup t = some i) (he : evBuildRow tt i get len parts.toList = some (e, vs)) (hd : allD vs = some ds) (tg : Bool) : Yields P bs Z w o a (.d (.list tg e len ds)) := by
  obtain ⟨cs, el, hr, hR, hs⟩ := run_buildSlice hT (P := P) (w := w) (Z := Z) hx hi he
  have := allD_map hd
  subst this
  have hRD := hR.toD
  intro next Q hn
  unfold Oper.wp
  have : (execOp a.eval o).run P w = .ok (.value (.slice (some ⟨w.heap.size, 0, none⟩) len len)) (w.alloc (.cells cs el)) := by
    simp only [execOp, ho, Sem.run_bind, hr, Result.andThen_ok, Sem.run_pure]
  rw [this]
  have hg := Grow.alloc Z w (.cells cs el)
  refine hn _ _ _ hg (.d _ _ ?_)
  have hl : ds.length = len * e := by have := hRD.1; simp at this; omega
  by_cases h0 : len = 0
  · subst h0
    have : ds = [] := List.eq_nil_of_length_eq_zero (by simpa using hl)
    subst this
    exact .list0 _ _ _ _ (fun _ => rfl)
  · refine .list tg e len ds _ len (fun j => cs.toList.getD j undef) (by omega) hl (.inr rfl) (Nat.le_refl _) (fun _ => rfl) (fun j hj => ?_) (fun j hj => ?_) (fun j x hx => ?_)
    · rw [cell_at (heap_alloc w _)]
      simp [show j < cs.size by omega, List.getD]
    · have := (hRD.2 j ds[j] (cs.toList.getD j undef) (List.getElem?_eq_getElem hj) (by simp [show j < cs.size by omega, List.getD])).1
      exact this
    · have hj : j < ds.length := (List.getElem?_eq_some_iff.1 hx).1
      have := (hRD.2 j x (cs.toList.getD j undef) hx (by simp [show j < cs.size by omega, List.getD])).2
      exact this.mono hg.zs (fun b hb => hg.heap b (hzl b hb))

end build
end Go.Sx
