/- Operations that make or write what is one's own. -/
import Derived.Test.YtadejgckgnbaoaaSxOnly
import Derived.Laws.Append
namespace Go.Sx
open Go
set_option linter.unusedSimpArgs false
set_option linter.unusedVariables false

def putT (dst : Option Tmp) (v : V) (T : St) : St :=
  match dst with
  | some d => (d, v) :: T.filter fun p => p.1 != d
  | none => T

def O.only (p : Nat → Bool) : O → O
  | .cells xs => .cells (V.onlyL p xs)
  | .data ds => .data ds
  | .fixed ds => .fixed ds
  | .map kvs => .map kvs
  | .loop st ps as bd N T => .loop st ps as bd N (T.map fun q => (q.1, q.2.only p))
def onlyT (p : Nat → Bool) (T : St) : St := T.map fun q => (q.1, q.2.only p)
def onlyH (p : Nat → Bool) (H : List O) : List O := H.map (O.only p)

/-- What is written into a row. -/
def StoreOk (xs : List V) (off : Nat) (vs xs' : List V) : Prop := off + vs.length ≤ xs.length ∧ putAt xs off vs = xs'

def MakeOk (n m : Int) (k : Nat) (bytes : Nat) (zero : List Value) (ds : List D) : Prop :=
  n = m ∧ k = n.toNat ∧ 0 ≤ n ∧ n * bytes ≤ 140737488355328 ∧ n ≤ 9223372036854775807 ∧ ds = (List.replicate n.toNat (zero.map D.v)).flatten

/-- A row of data. -/
def dataAt (H : List O) (id : Nat) : Option (List V) :=
  match H[id]? with
  | some (.data ds) => some (ds.map .d)
  | _ => none
theorem dataAt_row {H : List O} {id : Nat} {xs : List V} (h : dataAt H id = some xs) : rowAt H id = some xs ∧ ∀ o, H[id]? = some o → o.isData = true := by
  unfold dataAt at h
  split at h
  · rename_i ds hd
    simp at h; subst h
    exact ⟨by simp [rowAt, hd, O.row], fun ys hy => by rw [hd] at hy; simp at hy; subst hy; rfl⟩
  · simp at h

def evStore (i : TI) (h : Hint) (T : St) (H : List O) : V → V → Option (V × St × List O × List Prop)
  | .ref id off, x =>
    match H[id]?, x.cells with
    | some (.cells xs), some vs =>
      if vs.length == i.size then
        match h with
        | .vals xs' => some (.top, T, H.set id (.cells xs'), [StoreOk xs off vs xs'])
        | _ => if Nat.ble (off + i.size) xs.length then some (.top, T, H.set id (.cells (putAt xs off vs)), []) else none
      else none
    | some (.data ds), some vs =>
      if vs.length == i.size then
        match h with
        | .cells ds' => some (.top, T, H.set id (.data ds'), [StoreOk (ds.map .d) off vs (ds'.map .d)])
        | _ => none
      else none
    | some (.fixed ds), some vs =>
      if vs.length == i.size then
        match h with
        | .cells ds' => some (.top, T, H.set id (.fixed ds'), [StoreOk (ds.map .d) off vs (ds'.map .d)])
        | _ => none
      else none
    | _, _ => none
  | _, _ => none

def evMake (tt : Tab) (i : TI) (h : Hint) (T : St) (H : List O) : V → V → Option (V × St × List O × List Prop)
  | .d (.v (.int .i64 n)), .d (.v (.int .i64 m)) =>
    match i.kind, h with
    | .slice t, .list k ds => (tt.lookup t).bind fun it => some (.sl it.size H.length 0 k, T, H ++ [.data ds], [MakeOk n m k it.bytes it.zero ds])
    | _, _ => none
  | _, _ => none

def evAppend (tt : Tab) (i : TI) (h : Hint) (T : St) (H : List O) : V → V → Option (V × St × List O × List Prop)
  | .sl e id 0 n, x =>
    match i.kind, h, dataAt H id, srcOf e x with
    | .slice t, .list k out, some xs, some (m, src) =>
      (tt.lookup t).bind fun it => if it.size == e && Nat.blt 0 e then
        some (.sl e id 0 k, onlyT (· != id) T, (onlyH (· != id) H).set id (.data out), [AppendOk xs n m k e it.bytes src out])
      else none
    | _, _, _, _ => none
  | _, _ => none

def evCopy (tt : Tab) (i : TI) (T : St) (H : List O) : V → V → Option (V × St × List O × List Prop)
  | .sl e id off n, .d (.list _ e' m cells) =>
    match i.kind, H[id]? with
    | .slice t, some (.cells xs) =>
      (tt.lookup t).bind fun it =>
        if it.size == e && e' == e && Nat.beq cells.length (m * e) && Nat.ble (off + n * e) xs.length then
          some (vi (min m n : Nat), T, H.set id (.cells (putAt xs off ((cells.take (min m n * e)).map .d))), [])
        else none
    | _, _ => none
  | _, _ => none

def evMapSet (P : Program) (i : TI) (h : Hint) (T : St) (H : List O) : V → V → V → Option (V × St × List O × List Prop)
  | .mp id, .d kd, .d vd =>
    match H[id]?, i.kind, h with
    | some (.map kvs), .map kt _, .kvs kvs' => if eqB P kt kd then some (.top, T, H.set id (.map kvs'), [setD kd vd kvs = some kvs']) else none
    | _, _, _ => none
  | _, _, _ => none

def evEff (P : Program) (tt : Tab) (o : Oper) (h : Hint) (T : St) (H : List O) : Option (V × St × List O × List Prop) :=
  match o.op with
  | .alloc t => (tt.lookup t).map fun i => (.ref H.length 0, T, H ++ [.cells (i.zero.map fun z => .d (.v z))], [])
  | .box t x => (getV T x).cells.map fun vs => (.ref H.length 0, T, H ++ [.cells vs], [])
  | .buildSlice t len parts => if Nat.ble len 16777216 then (tt.lookup t).bind fun i => (evBuildRow tt i (getV T) len parts.toList).bind fun (e, vs) => (allD vs).map fun ds => (.sl e H.length 0 len, T, H ++ [.data ds], []) else none
  | .store t a x => (tt.lookup t).bind fun i => evStore i h T H (getV T a) (getV T x)
  | .makeSlice t l c => (tt.lookup t).bind fun i => evMake tt i h T H (getV T l) (getV T c)
  | .call c =>
    match c.callee, c.args.toList, c.argTypes.toList with
    | .builtin .append, [s, x], [t, t'] => if t == t' then (tt.lookup t).bind fun i => evAppend tt i h T H (getV T s) (getV T x) else none
    | .builtin .copy, [s, x], t :: _ => (tt.lookup t).bind fun i => evCopy tt i T H (getV T s) (getV T x)
    | _, _, _ => none
  | .makeMap t none => (tt.lookup t).map fun _ => (.mp H.length, T, H ++ [.map []], [])
  | .mapUpdate t m k x => (tt.lookup t).bind fun i => evMapSet P i h T H (getV T m) (getV T k) (getV T x)
  | _ => none

def isEff (o : Oper) (h : Hint) : Bool :=
  match o.op with
  | .alloc _ | .box _ _ | .store _ _ _ | .makeSlice _ _ _ | .makeMap _ _ | .mapUpdate _ _ _ _ => true
  | .buildSlice _ _ _ => (match h with | .own => true | _ => false)
  | .call c => (match c.callee with | .builtin .append => (match h with | .listT _ _ => false | _ => true) | .builtin .copy => true | _ => false)
  | _ => false

section sound
variable {P : Program} {tt : Tab} {bs : Bs} {Z : Nat → Prop} {w : World} {o : Oper} {a : Act} {v : V} {ps : List Prop} {N : Nat} {Γ : Ctx} {T T' : St} {H H' : List O}

/-- What an operation with an effect leaves to show. -/
def Does (P : Program) (N : Nat) (Γ : Ctx) (o : Oper) (a : Act) (w : World) (v : V) (T' : St) (H' : List O) : Prop :=
  ∀ (next : Act → World → Prop) (Q : Exit → Act → World → Prop), (∀ c bs' Z' w', InvW Γ H' bs' Z' w' → InvT N Γ T' bs' Z' a w' → RV bs' Z' w' v c → next (a.put o.dst c) w') → o.wp P a w next Q

theorem InvT.mono {bs bs' : Bs} {Z Z' : Nat → Prop} {w w' : World} (h : InvT N Γ T bs Z a w) (hb : ∀ (i : Nat) (o : Option (Nat × Nat)), bs[i]? = some o → bs'[i]? = some o) (hZ : ∀ b, Z b → Z' b)
    (hw : ∀ b, Z b → w'.heap[b]? = w.heap[b]?) : InvT N Γ T bs' Z' a w' := ⟨h.size, h.defers.mono hZ hw, fun i x hx => ⟨(h.rel i x hx).1, (h.rel i x hx).2.mono hb hZ hw⟩⟩

theorem bs_push {bs : Bs} {y : Option (Nat × Nat)} (i : Nat) (o : Option (Nat × Nat)) (h : bs[i]? = some o) : (bs ++ [y])[i]? = some o := by
  rw [List.getElem?_append_left (List.getElem?_eq_some_iff.1 h).1]; exact h

/-- A new object in a new block. -/
theorem InvW.push (hW : InvW Γ H bs Z w) (ob : Obj) (n : O) (k : Nat) (hn : okO (bs ++ [some (w.heap.size, k)]) Z (w.alloc ob) n (some (w.heap.size, k))) :
    InvW Γ (H ++ [n]) (bs ++ [some (w.heap.size, k)]) Z (w.alloc ob) := by
  have hold : ∀ b, b < w.heap.size → (w.alloc ob).heap[b]? = w.heap[b]? := fun b hb => (Grow.alloc Z w ob).heap b hb
  have hcase : ∀ (i : Nat) (b k' : Nat), (bs ++ [some (w.heap.size, k)])[i]? = some (some (b, k')) → bs[i]? = some (some (b, k')) ∨ (i = bs.length ∧ b = w.heap.size) := by
    intro i b k' h
    rw [List.getElem?_append] at h
    split at h
    · exact .inl h
    · rename_i hge
      right
      have : i - bs.length = 0 := by
        rcases Nat.eq_zero_or_pos (i - bs.length) with h0 | h0
        · exact h0
        · rw [List.getElem?_eq_none (by simp; omega)] at h; simp at h
      rw [this] at h
      simp at h
      exact ⟨by omega, h.1.symm⟩
  constructor
  · simp [hW.lenH]
  · intro i o' b ho hb
    rw [List.getElem?_append] at ho hb
    rw [← hW.lenH] at ho
    split at ho
    · rename_i hlt
      rw [if_pos hlt] at hb
      exact (hW.objs i o' b ho hb).mono bs_push (fun _ h => h) (fun b hb => hold b (hW.zlt b hb)) (fun q q' hq => hold q (hW.lt i q q' (hq ▸ hb)))
    · rename_i hlt
      rw [if_neg hlt] at hb
      have : i - bs.length = 0 := by
        rcases Nat.eq_zero_or_pos (i - bs.length) with h0 | h0
        · exact h0
        · rw [List.getElem?_eq_none (by simp; omega)] at ho; simp at ho
      rw [this] at ho hb
      simp at ho hb
      subst ho; subst hb
      exact hn
  · intro i j b k1 k2 hi hj
    rcases hcase i b k1 hi with h1 | ⟨h1, h1'⟩ <;> rcases hcase j b k2 hj with h2 | ⟨h2, h2'⟩
    · exact hW.nodup i j b k1 k2 h1 h2
    · have := hW.lt i b k1 h1; omega
    · have := hW.lt j b k2 h2; omega
    · omega
  · intro i b k1 hi hz
    rcases hcase i b k1 hi with h1 | ⟨h1, h1'⟩
    · exact hW.disj i b k1 h1 hz
    · have := hW.zlt b hz; omega
  · intro i b k1 hi
    rcases hcase i b k1 hi with h1 | ⟨h1, h1'⟩
    · have := hW.lt i b k1 h1; simp; omega
    · simp; omega
  · intro b hb; have := hW.zlt b hb; simp; omega
  · exact hW.z0
  · intro i b k1 hi
    rcases hcase i b k1 hi with h1 | ⟨h1, h1'⟩
    · exact hW.fresh i b k1 h1
    · have := hW.size; left; omega
  · exact hW.zfresh
  · have := hW.size; simp; omega
  · intro b hb hn'; rw [hold b (by have := hW.size; omega)]; exact hW.frame b hb hn'
  · exact hW.os
  · exact hW.tape
  · exact hW.output
  · intro i p hp
    obtain ⟨h1, xs, h2, h3⟩ := hW.pin i p hp
    exact ⟨bs_push _ _ h1, xs, by rw [List.getElem?_append_left (List.getElem?_eq_some_iff.1 h2).1]; exact h2, h3⟩

theorem RVL.mono {bs bs' : Bs} {Z Z' : Nat → Prop} {w w' : World} {vs : List V} {cs : List Value} (h : RVL bs Z w vs cs) (hb : ∀ (i : Nat) (o : Option (Nat × Nat)), bs[i]? = some o → bs'[i]? = some o) (hZ : ∀ b, Z b → Z' b)
    (hw : ∀ b, Z b → w'.heap[b]? = w.heap[b]?) : RVL bs' Z' w' vs cs := ⟨h.1, fun j x c hx hc => ⟨(h.2 j x c hx hc).1, (h.2 j x c hx hc).2.mono hb hZ hw⟩⟩

theorem okO.ofL {vs : List V} {cs : Array Value} {t : TypeId} {b : Nat} (h : w.heap[b]? = some (.cells cs t (0, 0))) (hv : RVL bs Z w vs (cs.toList.take vs.length)) (hl : vs.length ≤ cs.size) : okO bs Z w (.cells vs) (some (b, cs.size)) := by
  refine ⟨cs, t, h, rfl, hl, fun j x hx => ?_⟩
  have hj : j < vs.length := (List.getElem?_eq_some_iff.1 hx).1
  have hc : cs[j]? = some cs[j] := by simp [show j < cs.size by omega]
  refine ⟨cs[j], hc, ?_⟩
  exact hv.2 j x cs[j] hx (by rw [List.getElem?_take, if_pos hj]; simp)

theorem okO.ofD {ds : List D} {cs : Array Value} {t : TypeId} {b : Nat} (h : w.heap[b]? = some (.cells cs t (0, 0))) (hv : RDL Z w ds (cs.toList.take ds.length)) (hl : ds.length ≤ cs.size) : okO bs Z w (.data ds) (some (b, cs.size)) := by
  refine ⟨cs, t, h, rfl, hl, fun j x hx => ?_⟩
  have hj : j < ds.length := (List.getElem?_eq_some_iff.1 hx).1
  have hc : cs[j]? = some cs[j] := by simp [show j < cs.size by omega]
  refine ⟨cs[j], hc, ?_⟩
  exact hv.2 j x cs[j] hx (by rw [List.getElem?_take, if_pos hj]; simp)

theorem okO.ofF {ds : List D} {cs : Array Value} {t : TypeId} {b : Nat} (h : w.heap[b]? = some (.cells cs t (0, 0))) (hv : RDL Z w ds (cs.toList.take ds.length)) (hl : ds.length ≤ cs.size) : okO bs Z w (.fixed ds) (some (b, cs.size)) := by
  refine ⟨cs, t, h, rfl, hl, fun j x hx => ?_⟩
  have hj : j < ds.length := (List.getElem?_eq_some_iff.1 hx).1
  have hc : cs[j]? = some cs[j] := by simp [show j < cs.size by omega]
  refine ⟨cs[j], hc, ?_⟩
  exact hv.2 j x cs[j] hx (by rw [List.getElem?_take, if_pos hj]; simp)

/-- A new row of cells. -/
theorem new_cells (hW : InvW Γ H bs Z w) (hI : InvT N Γ T bs Z a w) {vs : List V} {cs : Array Value} (t : TypeId) (hv : RVL bs Z w vs cs.toList) :
    InvW Γ (H ++ [.cells vs]) (bs ++ [some (w.heap.size, cs.size)]) Z (w.alloc (.cells cs t)) ∧ InvT N Γ T (bs ++ [some (w.heap.size, cs.size)]) Z a (w.alloc (.cells cs t)) := by
  have hold : ∀ b, Z b → (w.alloc (.cells cs t)).heap[b]? = w.heap[b]? := fun b hb => (Grow.alloc Z w _).heap b (hW.zlt b hb)
  have hl : vs.length = cs.size := by have := hv.1; simp at this; omega
  refine ⟨hW.push _ _ _ (okO.ofL (heap_alloc w _) ?_ (by omega)), hI.mono bs_push (fun _ h => h) hold⟩
  rw [List.take_of_length_le (by simp; omega)]
  exact hv.mono bs_push (fun _ h => h) hold

theorem new_data (hW : InvW Γ H bs Z w) (hI : InvT N Γ T bs Z a w) {ds : List D} {cs : Array Value} (t : TypeId) (hv : RDL Z w ds (cs.toList.take ds.length)) (hl : ds.length ≤ cs.size) :
    InvW Γ (H ++ [.data ds]) (bs ++ [some (w.heap.size, cs.size)]) Z (w.alloc (.cells cs t)) ∧ InvT N Γ T (bs ++ [some (w.heap.size, cs.size)]) Z a (w.alloc (.cells cs t)) := by
  have hold : ∀ b, Z b → (w.alloc (.cells cs t)).heap[b]? = w.heap[b]? := fun b hb => (Grow.alloc Z w _).heap b (hW.zlt b hb)
  refine ⟨hW.push _ _ _ (okO.ofD (heap_alloc w _) ?_ hl), hI.mono bs_push (fun _ h => h) hold⟩
  exact ⟨hv.1, fun j x c hx hc => ⟨(hv.2 j x c hx hc).1, (hv.2 j x c hx hc).2.mono (fun _ h => h) hold⟩⟩

theorem bs_last (hW : InvW Γ H bs Z w) (y : Option (Nat × Nat)) : (bs ++ [y])[H.length]? = some y := by
  rw [← hW.lenH, List.getElem?_append_right (Nat.le_refl _)]; simp

variable (hT : Tab.ok P tt)

theorem Does.val {c : Value} {bs' : Bs} {Z' : Nat → Prop} {w' : World} (h : (execOp a.eval o).run P w = .ok (.value c) w') (hW : InvW Γ H' bs' Z' w') (hI : InvT N Γ T' bs' Z' a w') (hv : RV bs' Z' w' v c) : Does P N Γ o a w v T' H' := by
  intro next Q hn
  unfold Oper.wp
  rw [h]
  exact hn c bs' Z' w' hW hI hv

include hT in
theorem alloc_sound (hW : InvW Γ H bs Z w) (hI : InvT N Γ T bs Z a w) {t : TypeId} {i : TI} (ho : o.op = .alloc t) (hi : tt.lookup t = some i) :
    Does P N Γ o a w (.ref H.length 0) T (H ++ [.cells (i.zero.map fun z => .d (.v z))]) := by
  obtain ⟨z, hz1, hz2⟩ := run_zero hT hi w
  have hz := zero_rel hT (bs := bs) (Z := Z) (w := w) hi z hz2
  obtain ⟨h1, h2⟩ := new_cells hW hI t hz
  refine Does.val ?_ h1 h2 (.ref _ _ _ _ (bs_last hW _))
  simp only [execOp, ho, Instr.alloc, Sem.run_bind, hz1, Result.andThen_ok, newVar, newRow, run_newObj, Sem.run_pure]
  rfl

theorem box_sound (hW : InvW Γ H bs Z w) (hI : InvT N Γ T bs Z a w) {t : TypeId} {x : Operand} {vs : List V} (ho : o.op = .box t x) (hv : (getV T x).cells = some vs) :
    Does P N Γ o a w (.ref H.length 0) T (H ++ [.cells vs]) := by
  have hr := (getV_sound hI x).one hv
  obtain ⟨h1, h2⟩ := new_cells hW hI t hr
  refine Does.val ?_ h1 h2 (.ref _ _ _ _ (bs_last hW _))
  simp only [execOp, ho, Instr.box, Sem.run_bind, Result.andThen_ok, newVar, newRow, run_newObj, Sem.run_pure]
  rfl

include hT in
theorem buildOwn_sound (hW : InvW Γ H bs Z w) (hI : InvT N Γ T bs Z a w) {t : TypeId} {len : Nat} {parts : Array (Nat × Operand)} {i : TI} {e : Nat} {vs : List V} {ds : List D} (ho : o.op = .buildSlice t len parts)
    (hi : tt.lookup t = some i) (he : evBuildRow tt i (getV T) len parts.toList = some (e, vs)) (hd : allD vs = some ds) (hm : len ≤ 9223372036854775807) :
    Does P N Γ o a w (.sl e H.length 0 len) T (H ++ [.data ds]) := by
  obtain ⟨cs, el, hr, hR, hs⟩ := run_buildSlice hT (P := P) (w := w) (Z := Z) (fun p _ => getV_sound hI p.2) hi he
  have := allD_map hd
  subst this
  have hRD := hR.toD
  have hl : ds.length = cs.size := by have := hRD.1; simp at this; omega
  obtain ⟨h1, h2⟩ := new_data hW hI (a := a) (T := T) (ds := ds) (cs := cs) el (by rw [List.take_of_length_le (by simp; omega)]; exact hRD) (by omega)
  refine Does.val (c := .slice (some ⟨w.heap.size, 0, none⟩) len len) ?_ h1 h2 (.sl e _ 0 len _ _ len (bs_last hW _) (Nat.le_refl _) (by omega) hm)
  simp only [execOp, ho, Sem.run_bind, hr, Result.andThen_ok, Sem.run_pure]

omit hT in
/-- One of the call's own blocks is written. -/
theorem InvW.write (hW : InvW Γ H bs Z w) {id b k : Nat} {n : O} {w' : World} (hb : bs[id]? = some (some (b, k))) (ho : ∀ b', b' ≠ b → w'.heap[b']? = w.heap[b']?) (hs : w'.heap.size = w.heap.size)
    (h1 : w'.os = w.os) (h2 : w'.tape = w.tape) (h3 : w'.output = w.output) (hn : okO bs Z w' n (some (b, k))) (hc : ∀ o, H[id]? = some o → o.isData = false → n.isData = false) : InvW Γ (H.set id n) bs Z w' := by
  have hz : ∀ b', Z b' → w'.heap[b']? = w.heap[b']? := fun b' hb' => ho b' (fun e => by subst e; exact hW.disj id b' k hb hb')
  constructor
  · simp [hW.lenH]
  · intro i o' q hi hq
    rw [List.getElem?_set] at hi
    split at hi
    · rename_i e
      subst e
      split at hi <;> simp at hi
      subst hi
      rw [hb] at hq; simp at hq; subst hq
      exact hn
    · rename_i e
      refine (hW.objs i o' q hi hq).mono (fun _ _ h => h) (fun _ h => h) hz (fun g g' hg => ho g (fun e' => ?_))
      subst e'; subst hg
      exact e (hW.nodup id i g k g' hb hq)
  · exact hW.nodup
  · exact hW.disj
  · intro i b' k' hi; rw [hs]; exact hW.lt i b' k' hi
  · intro b' hb'; rw [hs]; exact hW.zlt b' hb'
  · exact hW.z0
  · exact hW.fresh
  · exact hW.zfresh
  · rw [hs]; exact hW.size
  · intro b' hlt hn'
    have : b' ≠ b := by
      intro e; subst e
      rcases hW.fresh id b' k hb with h | h
      · omega
      · exact hn' h
    rw [ho b' this]
    exact hW.frame b' hlt hn'
  · rw [h1]; exact hW.os
  · rw [h2]; exact hW.tape
  · rw [h3]; exact hW.output
  · intro i p hp
    obtain ⟨h1, xs, h2, h3⟩ := hW.pin i p hp
    refine ⟨h1, ?_⟩
    rw [List.getElem?_set]
    split
    · rename_i e; subst e
      exact ⟨n, by rw [if_pos (List.getElem?_eq_some_iff.1 h2).1], hc xs h2 h3⟩
    · exact ⟨xs, h2, h3⟩

omit hT in
theorem Does.skip {bs' : Bs} {Z' : Nat → Prop} {w' : World} (h : (execOp a.eval o).run P w = .ok .skip w') (hW : InvW Γ H' bs' Z' w') (hI : InvT N Γ T' bs' Z' a w') : Does P N Γ o a w .top T' H' := by
  intro next Q hn
  unfold Oper.wp
  rw [h]
  exact hn undef bs' Z' w' hW hI (.top _)

omit hT in
theorem RVL.ones {vs : List V} {cs : List Value} (h : RVL bs Z w vs cs) : ∀ c ∈ cs, c.oneCell' = true := by
  intro c hc
  obtain ⟨j, hj⟩ := List.mem_iff_getElem?.1 hc
  have hlt : j < vs.length := by rw [← h.1]; exact (List.getElem?_eq_some_iff.1 hj).1
  exact (h.2 j vs[j] c (List.getElem?_eq_getElem hlt) hj).1

include hT in
theorem store_run (hW : InvW Γ H bs Z w) (hI : InvT N Γ T bs Z a w) {t : TypeId} {x y : Operand} {i : TI} (ho : o.op = .store t x y) (hi : tt.lookup t = some i) {id off : Nat} (hx : getV T x = .ref id off)
    {vs xs xs' : List V} (hy : (getV T y).cells = some vs) (hl : vs.length = i.size) (hr : rowAt H id = some xs) (hle : off + vs.length ≤ xs.length) (hp : putAt xs off vs = xs') {n : O} (hn : n.row = some xs')
    (hn' : ∀ ys, n.row = some ys → ∀ {b k : Nat} {cs : Array Value} {ty : TypeId} {w' : World}, w'.heap[b]? = some (.cells cs ty (0, 0)) → cs.size = k → RVL bs Z w' ys (cs.toList.take ys.length) → ys.length ≤ cs.size → okO bs Z w' n (some (b, k))) (hpc : ∀ o, H[id]? = some o → o.isData = false → n.isData = false) :
    Does P N Γ o a w .top T (H.set id n) := by
  have hv := (getV_sound hI y).one hy
  have hX := getV_sound hI x
  rw [hx] at hX
  generalize hc : a.eval x = c at hX
  cases hX with | ref _ _ b k hb =>
  obtain ⟨cs, ty, g1, g2, g3, g4⟩ := hW.row hr hb
  have hvl : (a.eval y).cells.size = vs.length := by have := hv.1; simp at this; omega
  have hst := run_storeCells_at P b off ty (a.eval y).cells.toList 0 cs w g1 (by simp; omega) hv.ones
  simp only [Nat.add_zero] at hst
  have e2 : cs.toList.take off ++ (a.eval y).cells.toList ++ cs.toList.drop (off + (a.eval y).cells.toList.length) = putAt cs.toList off (a.eval y).cells.toList := by
    rw [putAt_eq _ _ _ (by simp; omega)]
  rw [e2] at hst
  have hrun : (execOp a.eval o).run P w = .ok .skip (w.setRow b (putAt cs.toList off (a.eval y).cells.toList).toArray) := by
    have hne : ¬ ((a.eval y).cells.size ≠ i.size) := by omega
    simp only [execOp, ho, Instr.storeAt, hc, Instr.sureAddr, Sem.run_bind, Sem.run_pure, Result.andThen_ok, storeVar, run_size hT hi, Sem.run_ite, if_neg hne, hst]
  have hsz : (putAt cs.toList off (a.eval y).cells.toList).toArray.size = cs.size := by simp [putAt_length]
  have hlen : xs'.length = xs.length := by rw [← hp, putAt_length]
  have hz : ∀ b', Z b' → (w.setRow b (putAt cs.toList off (a.eval y).cells.toList).toArray).heap[b']? = w.heap[b']? := fun b' hb' => setRow_other w b b' _ (fun e => by subst e; exact hW.disj id b' k hb hb')
  refine Does.skip hrun (hW.write hb (fun b' hne => setRow_other w b b' _ hne) (setRow_size _ _ _) rfl rfl rfl ?_ hpc) (hI.mono (fun _ _ h => h) (fun _ h => h) hz)
  refine hn' xs' hn (setRow_heap w b cs _ ty _ g1) (by rw [hsz]; exact g3) ?_ (by omega)
  have h5 := RVL.putAt (bs := bs) (Z := Z) (w := w) off g4 hv
  rw [hp] at h5
  have e3 : (putAt cs.toList off (a.eval y).cells.toList).toArray.toList.take xs'.length = putAt (cs.toList.take xs.length) off (a.eval y).cells.toList := by
    rw [hlen, List.toList_toArray, putAt_eq _ _ _ (by simp; omega), putAt_eq _ _ _ (by simp; omega)]
    apply List.ext_getElem?
    intro j
    have hlv : (a.eval y).cells.toList.length = vs.length := by simpa using hvl
    simp only [List.getElem?_take, List.append_assoc, List.getElem?_append, List.length_take, List.getElem?_drop, hlv]
    have hmm : min off cs.toList.length = off := by simp; omega
    have hm2 : min off (min xs.length cs.toList.length) = off := by simp; omega
    rw [hmm, hm2]
    by_cases h6 : j < off
    · simp [h6, show j < xs.length by omega]
    · simp only [h6, if_false]
      by_cases h7 : j - off < vs.length
      · simp [h7, show j < xs.length by omega]
      · simp only [h7, if_false]
        by_cases h8 : j < xs.length
        · rw [if_pos h8, if_pos (by omega)]
        · rw [if_neg h8, if_neg (by omega)]
  rw [e3]
  exact h5.mono (fun _ _ h => h) (fun _ h => h) hz

include hT in
theorem store_sound (hW : InvW Γ H bs Z w) (hI : InvT N Γ T bs Z a w) {t : TypeId} {x y : Operand} {i : TI} {h : Hint} (ho : o.op = .store t x y) (hi : tt.lookup t = some i)
    (he : evStore i h T H (getV T x) (getV T y) = some (v, T', H', ps)) (hp : ∀ p ∈ ps, p) : Does P N Γ o a w v T' H' := by
  generalize hx : getV T x = vx at he
  unfold evStore at he
  split at he
  · rename_i id off
    split at he
    · rename_i xs vs hH hv
      have hr : rowAt H id = some xs := by simp [rowAt, hH, O.row]
      split at he
      · rename_i hl
        simp at hl
        have fin : ∀ {xs' : List V}, off + vs.length ≤ xs.length → putAt xs off vs = xs' → Does P N Γ o a w .top T (H.set id (.cells xs')) := by
          intro xs' h1 h2
          refine store_run hT hW hI ho hi hx hv hl hr h1 h2 (n := .cells xs') rfl ?_ ?_
          intro ys hys b k cs ty w' g1 g2 g3 g4
          simp [O.row] at hys; subst hys; subst g2
          exact okO.ofL g1 g3 g4
          exact fun _ _ _ => rfl
        split at he
        · simp at he
          obtain ⟨rfl, rfl, rfl, rfl⟩ := he
          have := hp _ (List.mem_singleton.2 rfl)
          exact fin this.1 this.2
        · split at he
          · rename_i hle
            simp at he hle
            obtain ⟨rfl, rfl, rfl, rfl⟩ := he
            exact fin (by omega) rfl
          · simp at he
      · simp at he
    · rename_i ds vs hH hv
      have hr : rowAt H id = some (ds.map .d) := by simp [rowAt, hH, O.row]
      split at he
      · rename_i hl
        simp at hl
        split at he
        · rename_i ds'
          simp at he
          obtain ⟨rfl, rfl, rfl, rfl⟩ := he
          have := hp _ (List.mem_singleton.2 rfl)
          refine store_run hT hW hI ho hi hx hv hl hr this.1 this.2 (n := .data ds') rfl ?_ ?_
          intro ys hys b k cs ty w' g1 g2 g3 g4
          simp [O.row] at hys; subst hys; subst g2
          have g3' := g3
          rw [List.length_map] at g3'
          exact okO.ofD g1 g3'.toD (by simpa using g4)
          exact fun xs hxs h => by rw [hH] at hxs; simp at hxs; subst hxs; simp [O.isData] at h
        · simp at he
      · simp at he
    · rename_i ds vs hH hv
      have hr : rowAt H id = some (ds.map .d) := by simp [rowAt, hH, O.row]
      split at he
      · rename_i hl
        simp at hl
        split at he
        · rename_i ds'
          simp at he
          obtain ⟨rfl, rfl, rfl, rfl⟩ := he
          have := hp _ (List.mem_singleton.2 rfl)
          refine store_run hT hW hI ho hi hx hv hl hr this.1 this.2 (n := .fixed ds') rfl ?_ ?_
          intro ys hys b k cs ty w' g1 g2 g3 g4
          simp [O.row] at hys; subst hys; subst g2
          have g3' := g3
          rw [List.length_map] at g3'
          exact okO.ofF g1 g3'.toD (by simpa using g4)
          exact fun xs hxs h => rfl
        · simp at he
      · simp at he
    · simp at he
  · simp at he

end sound
end Go.Sx
