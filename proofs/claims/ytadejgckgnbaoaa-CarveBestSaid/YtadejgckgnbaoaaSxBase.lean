/- Abstract values, objects and states over the model's worlds; no program. -/
import Derived.Calls
import Derived.Orders
import Derived.LoopN
import Derived.LoopNIn
import Derived.OrdersIn
import Derived.RangeFuncRecord
import Derived.Laws.World
import Derived.Laws.Sem
namespace Go.Sx
set_option linter.unusedVariables false

/-- Frozen data. -/
inductive D where
  | any
  | v (x : Value)
  | list (tight : Bool) (e n : Nat) (cells : List D)
  | agg (cells : List D)

/-- What a slot holds. -/
inductive V where
  | top
  | d (x : D)
  | ref (id off : Nat)
  | sl (e id off len : Nat)
  | rop (cells : List D)
  | mp (id : Nat)
  | yld (id : Nat)
  | fn (f : Fn) (first captured : List V)
  | agg (cells : List V)
  | tup (vs : List V)
  | when (b : Bool) (x : V)

instance : Inhabited D := ⟨.any⟩
instance : Inhabited V := ⟨.top⟩

/-- The value of one cell. -/
def one (c : Value) : Prop := c.oneCell' = true

inductive RD (Z : Nat → Prop) (w : World) : D → Value → Prop
  | any (c : Value) (h : one c) : RD Z w .any c
  | v (x : Value) (h : one x) : RD Z w (.v x) x
  | list0 (t : Bool) (e : Nat) (a : Option Addr) (cap : Nat) (h : t = true → cap = 0) : RD Z w (.list t e 0 []) (.slice a 0 cap)
  | list (t : Bool) (e n : Nat) (cells : List D) (ad : Addr) (cap : Nat) (f : Nat → Value) (hn : 0 < n) (hl : cells.length = n * e) (hz : Z ad.block) (hcap : n ≤ cap)
      (ht : t = true → cap = n) (hc : ∀ j, j < cells.length → w.cell? (ad.add j) = some (f j)) (h1 : ∀ j, j < cells.length → one (f j))
      (hr : ∀ j x, cells[j]? = some x → RD Z w x (f j)) : RD Z w (.list t e n cells) (.slice (some ad) n cap)
  | agg (cells : List D) (cs : Array Value) (f : Nat → Value) (hl : cs.size = cells.length) (hf : ∀ j, j < cs.size → cs[j]? = some (f j)) (h1 : ∀ j, j < cells.length → one (f j))
      (hr : ∀ j x, cells[j]? = some x → RD Z w x (f j)) : RD Z w (.agg cells) (.agg cs)

/-- Where the call's own objects lie: block and number of cells (nothing: the nil slice's own row). -/
abbrev Bs := List (Option (Nat × Nat))

inductive RV (bs : Bs) (Z : Nat → Prop) (w : World) : V → Value → Prop
  | top (c : Value) : RV bs Z w .top c
  | d (x : D) (c : Value) (h : RD Z w x c) : RV bs Z w (.d x) c
  | ref (id off b k : Nat) (h : bs[id]? = some (some (b, k))) : RV bs Z w (.ref id off) (.pointer (some ⟨b, off, none⟩))
  | sl (e id off len b k cap : Nat) (h : bs[id]? = some (some (b, k))) (hcap : len ≤ cap) (hk : off + cap * e ≤ k) (hm : cap ≤ 9223372036854775807) : RV bs Z w (.sl e id off len) (.slice (some ⟨b, off, none⟩) len cap)
  | sl0 (e id : Nat) (h : bs[id]? = some none) : RV bs Z w (.sl e id 0 0) (.slice none 0 0)
  | rop (cells : List D) (ad : Addr) (f : Nat → Value) (hz : Z ad.block) (hc : ∀ j, j < cells.length → w.cell? (ad.add j) = some (f j)) (h1 : ∀ j, j < cells.length → one (f j))
      (hr : ∀ j x, cells[j]? = some x → RD Z w x (f j)) : RV bs Z w (.rop cells) (.pointer (some ad))
  | mp (id b k : Nat) (h : bs[id]? = some (some (b, k))) : RV bs Z w (.mp id) (.map (some b))
  | yld (id b k : Nat) (h : bs[id]? = some (some (b, k))) : RV bs Z w (.yld id) (.func (.yield b) #[] #[])
  | fn (g : Fn) (first captured : List V) (fs cs : Array Value) (f k : Nat → Value) (hl : fs.size = first.length) (hl' : cs.size = captured.length)
      (hf : ∀ j, j < fs.size → fs[j]? = some (f j)) (hk : ∀ j, j < cs.size → cs[j]? = some (k j))
      (hr : ∀ j x, first[j]? = some x → RV bs Z w x (f j)) (hr' : ∀ j x, captured[j]? = some x → RV bs Z w x (k j)) : RV bs Z w (.fn g first captured) (.func g fs cs)
  | agg (cells : List V) (cs : Array Value) (f : Nat → Value) (hl : cs.size = cells.length) (hf : ∀ j, j < cs.size → cs[j]? = some (f j)) (h1 : ∀ j, j < cells.length → one (f j))
      (hr : ∀ j x, cells[j]? = some x → RV bs Z w x (f j)) : RV bs Z w (.agg cells) (.agg cs)
  | tup (vs : List V) (cs : Array Value) (f : Nat → Value) (hl : cs.size = vs.length) (hf : ∀ j, j < cs.size → cs[j]? = some (f j))
      (hr : ∀ j x, vs[j]? = some x → RV bs Z w x (f j)) : RV bs Z w (.tup vs) (.tuple cs)
  | when (b : Bool) (x : V) (c : Value) (h : b = true → RV bs Z w x c) (h' : b = false → c = undef) : RV bs Z w (.when b x) c

section mono
variable {Z Z' : Nat → Prop} {w w' : World} {bs bs' : Bs}

theorem cell_of_heap {w w' : World} {a : Addr} (h : w'.heap[a.block]? = w.heap[a.block]?) : w'.cell? a = w.cell? a := by
  unfold World.cell?; rw [h]

theorem add_block (a : Addr) (n : Nat) : (a.add n).block = a.block := by unfold Addr.add; split <;> rfl
theorem add_add (a : Addr) (i j : Nat) : (a.add i).add j = a.add (i + j) := by
  unfold Addr.add
  by_cases hi : i = 0 <;> by_cases hj : j = 0 <;> simp [hi, hj, Nat.add_assoc]

theorem RD.monoC {x : D} {c : Value} (h : RD Z w x c) (hZ : ∀ b, Z b → Z' b) (hw : ∀ a : Addr, Z a.block → w'.cell? a = w.cell? a) : RD Z' w' x c := by
  induction h with
  | any c h => exact .any c h
  | v x h => exact .v x h
  | list0 t e a cap h => exact .list0 t e a cap h
  | list t e n cells ad cap f hn hl hz hcap ht hc h1 hr ih =>
    exact .list t e n cells ad cap f hn hl (hZ _ hz) hcap ht (fun j hj => (hw _ (by rw [add_block]; exact hz)).trans (hc j hj)) h1 ih
  | agg cells cs f hl hf h1 hr ih => exact .agg cells cs f hl hf h1 ih
theorem RD.mono {x : D} {c : Value} (h : RD Z w x c) (hZ : ∀ b, Z b → Z' b) (hw : ∀ b, Z b → w'.heap[b]? = w.heap[b]?) : RD Z' w' x c :=
  h.monoC hZ fun a ha => cell_of_heap (hw _ ha)

theorem RV.monoC {x : V} {c : Value} (h : RV bs Z w x c) (hb : ∀ (i : Nat) (o : Option (Nat × Nat)), bs[i]? = some o → bs'[i]? = some o) (hZ : ∀ b, Z b → Z' b) (hw : ∀ a : Addr, Z a.block → w'.cell? a = w.cell? a) :
    RV bs' Z' w' x c := by
  induction h with
  | top c => exact .top c
  | d x c h => exact .d x c (h.monoC hZ hw)
  | ref id off b k h => exact .ref id off b k (hb _ _ h)
  | sl e id off len b k cap h hc hk hm => exact .sl e id off len b k cap (hb _ _ h) hc hk hm
  | sl0 e id h => exact .sl0 e id (hb _ _ h)
  | rop cells ad f hz hc h1 hr =>
    exact .rop cells ad f (hZ _ hz) (fun j hj => (hw _ (by rw [add_block]; exact hz)).trans (hc j hj)) h1 (fun j x hx => (hr j x hx).monoC hZ hw)
  | mp id b k h => exact .mp id b k (hb _ _ h)
  | yld id b k h => exact .yld id b k (hb _ _ h)
  | fn g first captured fs cs f k hl hl' hf hk hr hr' ih ih' => exact .fn g first captured fs cs f k hl hl' hf hk ih ih'
  | agg cells cs f hl hf h1 hr ih => exact .agg cells cs f hl hf h1 ih
  | tup vs cs f hl hf hr ih => exact .tup vs cs f hl hf ih
  | when b x c h h' ih => exact .when b x c ih h'
theorem RV.mono {x : V} {c : Value} (h : RV bs Z w x c) (hb : ∀ (i : Nat) (o : Option (Nat × Nat)), bs[i]? = some o → bs'[i]? = some o) (hZ : ∀ b, Z b → Z' b) (hw : ∀ b, Z b → w'.heap[b]? = w.heap[b]?) :
    RV bs' Z' w' x c := h.monoC hb hZ fun a ha => cell_of_heap (hw _ ha)
end mono

/-- An object of the call's own: a row of cells, or a map. -/
inductive O where
  | cells (xs : List V)
  | data (ds : List D)
  | fixed (ds : List D)
  | map (kvs : List (D × D))
  | loop (st : Option (Option Code)) (ps : List Tmp) (assign body : Code) (N : Nat) (T : List (Nat × V))

/-- A row that may come to lie elsewhere. -/
def O.isData : O → Bool
  | .data _ => true
  | _ => false

instance : Inhabited O := ⟨.cells []⟩

/-- A loop's record: busy, or at rest with the jump that is pending. -/
def LoopOk (st : Option (Option Code)) (r : Loop) : Prop :=
  match st with
  | none => r.state = .busy
  | some p => r.pending = p ∧ r.state = (if p.isNone then .ready else .done)

/-- The object lies there. -/
def okO (bs : Bs) (Z : Nat → Prop) (w : World) : O → Option (Nat × Nat) → Prop
  | .cells xs, none => xs = []
  | .cells xs, some (b, k) => ∃ (cs : Array Value) (t : TypeId), w.heap[b]? = some (.cells cs t (0, 0)) ∧ cs.size = k ∧ xs.length ≤ k ∧
      ∀ (j : Nat) (x : V), xs[j]? = some x → ∃ c, cs[j]? = some c ∧ one c ∧ RV bs Z w x c
  | .data ds, none => ds = []
  | .data ds, some (b, k) => ∃ (cs : Array Value) (t : TypeId), w.heap[b]? = some (.cells cs t (0, 0)) ∧ cs.size = k ∧ ds.length ≤ k ∧
      ∀ (j : Nat) (x : D), ds[j]? = some x → ∃ c, cs[j]? = some c ∧ one c ∧ RD Z w x c
  | .fixed ds, none => ds = []
  | .fixed ds, some (b, k) => ∃ (cs : Array Value) (t : TypeId), w.heap[b]? = some (.cells cs t (0, 0)) ∧ cs.size = k ∧ ds.length ≤ k ∧
      ∀ (j : Nat) (x : D), ds[j]? = some x → ∃ c, cs[j]? = some c ∧ one c ∧ RD Z w x c
  | .map _, none => False
  | .map kvs, some (b, _) => ∃ (es : Array MapEntry) (k : Nat), w.heap[b]? = some (.map es k) ∧ es.size = kvs.length ∧
      ∀ (j : Nat) (x : D × D), kvs[j]? = some x → ∃ e, es[j]? = some e ∧ RD Z w x.1 e.key ∧ RD Z w x.2 e.val
  | .loop _ _ _ _ _ _, none => False
  | .loop st ps as bd N T, some (b, _) => ∃ r : Loop, w.heap[b]? = some (.loop r) ∧ LoopOk st r ∧ r.params = ps.toArray ∧ r.assign = as ∧ r.body = bd ∧ r.tmps.size = N ∧
      ∀ i x, (i, x) ∈ T → i < N ∧ RV bs Z w x (r.tmps.getD i undef)

/-- The cells of a row. -/
def O.row : O → Option (List V)
  | .cells xs => some xs
  | .data ds => some (ds.map .d)
  | .fixed ds => some (ds.map .d)
  | .map _ => none
  | .loop _ _ _ _ _ _ => none
def rowAt (H : List O) (id : Nat) : Option (List V) := (H[id]?).bind O.row

theorem okO.monoC {bs bs' : Bs} {Z Z' : Nat → Prop} {w w' : World} {o : O} {b : Option (Nat × Nat)} (h : okO bs Z w o b) (hb : ∀ (i : Nat) (o : Option (Nat × Nat)), bs[i]? = some o → bs'[i]? = some o)
    (hZ : ∀ b, Z b → Z' b) (hw : ∀ a : Addr, Z a.block → w'.cell? a = w.cell? a) (hob : ∀ k q, b = some (k, q) → w'.heap[k]? = w.heap[k]?) : okO bs' Z' w' o b := by
  cases o with
  | cells xs =>
    cases b with
    | none => exact h
    | some p =>
      obtain ⟨k, q⟩ := p
      obtain ⟨cs, t, hh, hk, hl, hx⟩ := h
      refine ⟨cs, t, (hob k q rfl).trans hh, hk, hl, fun j x hj => ?_⟩
      obtain ⟨c, hc, h1, hr⟩ := hx j x hj
      exact ⟨c, hc, h1, hr.monoC hb hZ hw⟩
  | data ds =>
    cases b with
    | none => exact h
    | some p =>
      obtain ⟨k, q⟩ := p
      obtain ⟨cs, t, hh, hk, hl, hx⟩ := h
      refine ⟨cs, t, (hob k q rfl).trans hh, hk, hl, fun j x hj => ?_⟩
      obtain ⟨c, hc, h1, hr⟩ := hx j x hj
      exact ⟨c, hc, h1, hr.monoC hZ hw⟩
  | fixed ds =>
    cases b with
    | none => exact h
    | some p =>
      obtain ⟨k, q⟩ := p
      obtain ⟨cs, t, hh, hk, hl, hx⟩ := h
      refine ⟨cs, t, (hob k q rfl).trans hh, hk, hl, fun j x hj => ?_⟩
      obtain ⟨c, hc, h1, hr⟩ := hx j x hj
      exact ⟨c, hc, h1, hr.monoC hZ hw⟩
  | map kvs =>
    cases b with
    | none => exact h
    | some p =>
      obtain ⟨k, q⟩ := p
      obtain ⟨es, q', hh, hl, hx⟩ := h
      refine ⟨es, q', (hob k q rfl).trans hh, hl, fun j x hj => ?_⟩
      obtain ⟨e, he, h1, h2⟩ := hx j x hj
      exact ⟨e, he, h1.monoC hZ hw, h2.monoC hZ hw⟩
  | loop st ps as bd N T =>
    cases b with
    | none => exact h
    | some p =>
      obtain ⟨k, q⟩ := p
      obtain ⟨r, h1, h2, h3, h4, h5, h6, h7⟩ := h
      exact ⟨r, (hob k q rfl).trans h1, h2, h3, h4, h5, h6, fun i x hx => ⟨(h7 i x hx).1, (h7 i x hx).2.monoC hb hZ hw⟩⟩
theorem okO.mono {bs bs' : Bs} {Z Z' : Nat → Prop} {w w' : World} {o : O} {b : Option (Nat × Nat)} (h : okO bs Z w o b) (hb : ∀ (i : Nat) (o : Option (Nat × Nat)), bs[i]? = some o → bs'[i]? = some o)
    (hZ : ∀ b, Z b → Z' b) (hw : ∀ b, Z b → w'.heap[b]? = w.heap[b]?) (hob : ∀ k q, b = some (k, q) → w'.heap[k]? = w.heap[k]?) : okO bs' Z' w' o b :=
  h.monoC hb hZ (fun a ha => cell_of_heap (hw _ ha)) hob

abbrev St := List (Nat × V)

/-- What was there when the call began: the world, what is frozen, the blocks that it may write. -/
structure Ctx where
  w0 : World
  Z0 : Nat → Prop
  B0 : Nat → Prop
  /-- Objects whose place is not to turn. -/
  pin : Nat → Option (Option (Nat × Nat)) := fun _ => none
  n0 : Nat := 0
  pinlt : ∀ i p, pin i = some p → i < n0 := by intro i p h; simp at h

structure InvW (Γ : Ctx) (H : List O) (bs : Bs) (Z : Nat → Prop) (w : World) : Prop where
  lenH : bs.length = H.length
  objs : ∀ (i : Nat) (o : O) (b : Option (Nat × Nat)), H[i]? = some o → bs[i]? = some b → okO bs Z w o b
  nodup : ∀ (i j : Nat) (b k k' : Nat), bs[i]? = some (some (b, k)) → bs[j]? = some (some (b, k')) → i = j
  disj : ∀ (i : Nat) (b k : Nat), bs[i]? = some (some (b, k)) → ¬ Z b
  lt : ∀ (i : Nat) (b k : Nat), bs[i]? = some (some (b, k)) → b < w.heap.size
  zlt : ∀ b, Z b → b < w.heap.size
  z0 : ∀ b, Γ.Z0 b → Z b
  fresh : ∀ (i : Nat) (b k : Nat), bs[i]? = some (some (b, k)) → Γ.w0.heap.size ≤ b ∨ Γ.B0 b
  zfresh : ∀ b, Z b → Γ.Z0 b ∨ Γ.w0.heap.size ≤ b ∨ Γ.B0 b
  size : Γ.w0.heap.size ≤ w.heap.size
  frame : ∀ b, b < Γ.w0.heap.size → ¬ Γ.B0 b → w.heap[b]? = Γ.w0.heap[b]?
  os : w.os = Γ.w0.os
  tape : w.tape = Γ.w0.tape
  output : w.output = Γ.w0.output
  pin : ∀ i p, Γ.pin i = some p → bs[i]? = some p ∧ ∃ o, H[i]? = some o ∧ o.isData = false

/-- The marks that loops over functions have left: each names a block of no calls, which is new. -/
def markOf (d : Nat) : Deferred := { target := .collected d, args := #[] }
def DefOk (Γ : Ctx) (Z : Nat → Prop) (w : World) (ds : List Deferred) : Prop :=
  ∃ l : List Nat, ds = l.map markOf ∧ l.Nodup ∧ ∀ d ∈ l, Γ.w0.heap.size ≤ d ∧ Z d ∧ w.heap[d]? = some (.deferred (some []))
theorem DefOk.mono {Γ : Ctx} {Z Z' : Nat → Prop} {w w' : World} {ds : List Deferred} (h : DefOk Γ Z w ds) (hZ : ∀ b, Z b → Z' b) (hw : ∀ b, Z b → w'.heap[b]? = w.heap[b]?) : DefOk Γ Z' w' ds := by
  obtain ⟨l, h1, h2, h3⟩ := h
  exact ⟨l, h1, h2, fun d hd => ⟨(h3 d hd).1, hZ _ (h3 d hd).2.1, (hw _ (h3 d hd).2.1).trans (h3 d hd).2.2⟩⟩
theorem DefOk.nil {Γ : Ctx} {Z : Nat → Prop} {w : World} : DefOk Γ Z w [] := ⟨[], rfl, List.nodup_nil, fun d h => by simp at h⟩

structure InvT (N : Nat) (Γ : Ctx) (T : St) (bs : Bs) (Z : Nat → Prop) (a : Act) (w : World) : Prop where
  size : a.tmps.size = N
  defers : DefOk Γ Z w a.defers
  rel : ∀ i x, (i, x) ∈ T → i < N ∧ RV bs Z w x (a.tmps.getD i undef)

def Inv (N : Nat) (Γ : Ctx) (T : St) (H : List O) (a : Act) (w : World) : Prop :=
  ∃ bs Z, InvW Γ H bs Z w ∧ InvT N Γ T bs Z a w

mutual
/-- A datum may be told less of: a nil slice is an empty list. -/
inductive LeD : D → D → Prop
  | rfl {x : D} : LeD x x
  | nil {e : Nat} : LeD (.v (.slice none 0 0)) (.list false e 0 [])
  | loose {e n : Nat} {cells : List D} : LeD (.list true e n cells) (.list false e n cells)
  | agg {xs ys : List D} (h : LeDs xs ys) : LeD (.agg xs) (.agg ys)
inductive LeDs : List D → List D → Prop
  | nil : LeDs [] []
  | cons {x y : D} {xs ys : List D} (h : LeD x y) (h' : LeDs xs ys) : LeDs (x :: xs) (y :: ys)
end

section
variable {Z : Nat → Prop} {w : World}
theorem LeDs.len : ∀ {xs ys : List D}, LeDs xs ys → xs.length = ys.length
  | _, _, .nil => rfl
  | _, _, .cons _ h' => by simp [h'.len]
mutual
theorem RD.leR {x y : D} {c : Value} : LeD x y → RD Z w x c → RD Z w y c
  | .rfl, h => h
  | .nil, h => by cases h; exact .list0 _ _ _ _ (by simp)
  | .loose, h => by
    cases h with
    | list0 _ _ _ _ h => exact .list0 _ _ _ _ (by simp)
    | list _ _ _ _ ad cap f hn hl hz hcap ht hc h1 hr => exact .list _ _ _ _ ad cap f hn hl hz hcap (by simp) hc h1 hr
  | .agg hs, h => by
    cases h with
    | agg _ cs f hl hf h1 hr => exact .agg _ cs f (hl.trans hs.len) hf (fun j hj => h1 j (by rw [hs.len]; exact hj)) (RD.les hs f hr)
theorem RD.les {xs ys : List D} : LeDs xs ys → ∀ f : Nat → Value, (∀ (j : Nat) x, xs[j]? = some x → RD Z w x (f j)) → ∀ (j : Nat) y, ys[j]? = some y → RD Z w y (f j)
  | .nil, f, h, j, y, hy => by simp at hy
  | .cons h1 h2, f, h, 0, y, hy => by simp at hy; subst hy; exact RD.leR h1 (h 0 _ rfl)
  | .cons h1 h2, f, h, j + 1, y, hy => by
    simp only [List.getElem?_cons_succ] at hy
    exact RD.les h2 (fun j => f (j + 1)) (fun j x hx => h (j + 1) x (by simpa using hx)) j y hy
end
end


theorem RD.le {Z : Nat → Prop} {w : World} {x y : D} {c : Value} (h : RD Z w x c) (hl : LeD x y) : RD Z w y c := RD.leR hl h
end Go.Sx
