/- Regions that draw their order, with operations in the body that make or write objects: the words. -/
import Derived.Test.YtadejgckgnbaoaaSxDraw3
namespace Go.Sx
open Go
set_option linter.unusedSimpArgs false
set_option linter.unusedVariables false

mutual
/-- The objects that a value names. -/
def V.ids : V → List Nat
  | .ref id _ => [id]
  | .sl _ id _ _ => [id]
  | .mp id => [id]
  | .yld id => [id]
  | .fn _ a c => V.idsL a ++ V.idsL c
  | .agg cs => V.idsL cs
  | .tup vs => V.idsL vs
  | .when _ x => V.ids x
  | .top => []
  | .d _ => []
  | .rop _ => []
def V.idsL : List V → List Nat
  | [] => []
  | v :: vs => V.ids v ++ V.idsL vs
end
def O.ids : O → List Nat
  | .cells xs => V.idsL xs
  | .loop _ _ _ _ _ T => V.idsL (T.map (·.2))
  | _ => []

mutual
theorem only_ids (p : Nat → Bool) : (v : V) → (∀ i ∈ v.ids, p i = true) → v.only p = v
  | .ref id off, h => by simp [V.only, h id (by simp [V.ids])]
  | .sl e id off n, h => by simp [V.only, h id (by simp [V.ids])]
  | .mp id, h => by simp [V.only, h id (by simp [V.ids])]
  | .yld id, h => by simp [V.only, h id (by simp [V.ids])]
  | .fn g a c, h => by
    simp only [V.ids, List.mem_append] at h
    simp only [V.only]
    rw [onlyL_ids p a (fun i hi => h i (.inl hi)), onlyL_ids p c (fun i hi => h i (.inr hi))]
  | .agg cs, h => by simp only [V.ids] at h; simp only [V.only]; rw [onlyL_ids p cs h]
  | .tup vs, h => by simp only [V.ids] at h; simp only [V.only]; rw [onlyL_ids p vs h]
  | .when b x, h => by simp only [V.ids] at h; simp only [V.only]; rw [only_ids p x h]
  | .top, _ => by simp [V.only]
  | .d _, _ => by simp [V.only]
  | .rop _, _ => by simp [V.only]
theorem onlyL_ids (p : Nat → Bool) : (vs : List V) → (∀ i ∈ V.idsL vs, p i = true) → V.onlyL p vs = vs
  | [], _ => by simp [V.onlyL]
  | v :: vs, h => by
    simp only [V.idsL, List.mem_append] at h
    simp only [V.onlyL]
    rw [only_ids p v (fun i hi => h i (.inl hi)), onlyL_ids p vs (fun i hi => h i (.inr hi))]
end

theorem idsL_mem {v : V} {vs : List V} (h : v ∈ vs) : ∀ i ∈ v.ids, i ∈ V.idsL vs := by
  induction vs with
  | nil => simp at h
  | cons u vs ih =>
    intro i hi
    simp only [V.idsL, List.mem_append]
    rcases List.mem_cons.1 h with rfl | h
    · exact .inl hi
    · exact .inr (ih h i hi)

theorem onlyO_ids (p : Nat → Bool) (o : O) (h : ∀ i ∈ o.ids, p i = true) : o.only p = o := by
  cases o with
  | cells xs => simp only [O.only]; rw [onlyL_ids p xs h]
  | loop st ps as bd N T =>
    simp only [O.only]
    congr 1
    conv => rhs; rw [← List.map_id T]
    refine List.map_congr_left fun q hq => ?_
    simp only [O.ids] at h
    rw [only_ids p q.2 (fun i hi => h i (idsL_mem (List.mem_map.2 ⟨q, hq, rfl⟩) i hi))]
    rfl
  | _ => rfl

theorem RV.keep {bs bs' : Bs} {Z : Nat → Prop} {w : World} {v : V} {c : Value} (h : RV bs Z w v c) (hb : ∀ i ∈ v.ids, ∀ (o : Option (Nat × Nat)), bs[i]? = some o → bs'[i]? = some o) : RV bs' Z w v c := by
  have := h.only (bs' := bs') (fun i => decide (i ∈ v.ids)) (fun i o hi h => hb i (by simpa using hi) o h)
  rwa [only_ids _ _ (fun i hi => by simpa using hi)] at this

/-! ### States as functions of what has been done -/
section states
variable {A : Type}
def updW (σ : Nat → A) (W : List (Nat × A)) : Nat → A := fun x => (W.lookup x).getD (σ x)
def stS (S : Nat → Bool) : (Nat → A) → List (List (Nat × A)) → Nat → Nat → A
  | σ, [], _ => σ
  | σ, W :: ws, k => stS S (if S k then updW σ W else σ) ws (k + 1)
def inKeys (x : Nat) (W : List (Nat × A)) : Prop := ∃ a, (x, a) ∈ W

theorem lookup_none {x : Nat} {W : List (Nat × A)} (h : ¬ inKeys x W) : W.lookup x = none := by
  induction W with
  | nil => rfl
  | cons p W ih =>
    obtain ⟨y, b⟩ := p
    rw [List.lookup_cons]
    have h1 : (x == y) = false := by
      rw [beq_eq_false_iff_ne]; rintro rfl; exact h ⟨b, by simp⟩
    rw [h1]
    exact ih (fun ⟨a, ha⟩ => h ⟨a, List.mem_cons_of_mem _ ha⟩)
theorem lookup_some {x : Nat} {W : List (Nat × A)} (h : inKeys x W) : ∃ a, W.lookup x = some a := by
  obtain ⟨a, ha⟩ := h
  induction W with
  | nil => simp at ha
  | cons p W ih =>
    obtain ⟨y, b⟩ := p
    rw [List.lookup_cons]
    by_cases hxy : x = y
    · subst hxy; exact ⟨b, by simp⟩
    · have h1 : (x == y) = false := by rw [beq_eq_false_iff_ne]; exact hxy
      rw [h1]
      rcases List.mem_cons.1 ha with e | ha
      · simp at e; exact absurd e.1 hxy
      · exact ih ha

theorem updW_out {σ : Nat → A} {W : List (Nat × A)} {x : Nat} (h : ¬ inKeys x W) : updW σ W x = σ x := by simp [updW, lookup_none h]
theorem updW_in {σ σ' : Nat → A} {W : List (Nat × A)} {x : Nat} (h : inKeys x W) : updW σ W x = updW σ' W x := by
  obtain ⟨a, ha⟩ := lookup_some h
  simp [updW, ha]

theorem stS_agree {S S' : Nat → Bool} {x : Nat} : ∀ (ws : List (List (Nat × A))) (σ σ' : Nat → A) (k : Nat), σ x = σ' x → (∀ (j : Nat) W, ws[j]? = some W → inKeys x W → S (k + j) = S' (k + j)) → stS S σ ws k x = stS S' σ' ws k x := by
  intro ws
  induction ws with
  | nil => intro σ σ' k h _; exact h
  | cons W ws ih =>
    intro σ σ' k h hS
    simp only [stS]
    refine ih _ _ _ ?_ (fun j W' hj hx => by
      have := hS (j + 1) W' (by simpa using hj) hx
      rw [show k + 1 + j = k + (j + 1) by omega]; exact this)
    by_cases hx : inKeys x W
    · have h0 := hS 0 W rfl hx
      simp only [Nat.add_zero] at h0
      rw [h0]
      split
      · exact updW_in hx
      · exact h
    · split <;> split
      · rw [updW_out hx, updW_out hx, h]
      · rw [updW_out hx, h]
      · rw [updW_out hx, h]
      · exact h

theorem stS_last {S : Nat → Bool} {x : Nat} : ∀ (ws : List (List (Nat × A))) (σ τ : Nat → A) (k i : Nat) (W : List (Nat × A)), ws[i]? = some W → S (k + i) = true → inKeys x W → (∀ (j : Nat) W', ws[j]? = some W' → i < j → S (k + j) = true → ¬ inKeys x W') →
    stS S σ ws k x = updW τ W x := by
  intro ws
  induction ws with
  | nil => intro σ τ k i W h; simp at h
  | cons W0 ws ih =>
    intro σ τ k i W hi hS hx hl
    simp only [stS]
    cases i with
    | zero =>
      simp at hi; subst hi
      rw [Nat.add_zero] at hS
      rw [if_pos hS]
      -- nobody writes it behind
      have : ∀ (ws' : List (List (Nat × A))) (k' : Nat) (σ' : Nat → A), (∀ (j : Nat) W', ws'[j]? = some W' → S (k' + j) = true → ¬ inKeys x W') → stS S σ' ws' k' x = σ' x := by
        intro ws'
        induction ws' with
        | nil => intro k' σ' _; rfl
        | cons W1 ws' ih' =>
          intro k' σ' h'
          simp only [stS]
          rw [ih' (k' + 1) _ (fun j W' hj hs => h' (j + 1) W' (by simpa using hj) (by rw [show k' + (j + 1) = k' + 1 + j by omega]; exact hs))]
          split
          · rename_i hs
            exact updW_out (h' 0 W1 rfl (by simpa using hs))
          · rfl
      rw [this ws (k + 1) _ (fun j W' hj hs => hl (j + 1) W' (by simpa using hj) (by omega) (by rw [show k + (j + 1) = k + 1 + j by omega]; exact hs))]
      exact updW_in hx
    | succ i =>
      exact ih _ τ (k + 1) i W (by simpa using hi) (by rw [show k + 1 + i = k + (i + 1) by omega]; exact hS) hx (fun j W' hj hlt hs => hl (j + 1) W' (by simpa using hj) (by omega) (by rw [show k + (j + 1) = k + 1 + j by omega]; exact hs))

theorem stS_add {S S' : Nat → Bool} {σ : Nat → A} {ws : List (List (Nat × A))} {i : Nat} {W : List (Nat × A)} (hi : ws[i]? = some W) (h1 : S' i = true) (h2 : ∀ j, j ≠ i → S' j = S j)
    (hl : ∀ (j : Nat) W' x, ws[j]? = some W' → i < j → S j = true → inKeys x W → ¬ inKeys x W') : stS S' σ ws 0 = updW (stS S σ ws 0) W := by
  funext x
  by_cases hx : inKeys x W
  · refine stS_last ws σ _ 0 i W hi (by rw [Nat.zero_add]; exact h1) hx (fun j W' hj hlt hs => ?_)
    rw [Nat.zero_add, h2 j (by omega)] at hs
    exact hl j W' x hj hlt hs hx
  · rw [updW_out hx]
    refine stS_agree ws σ σ 0 rfl (fun j W' hj hx' => ?_)
    rw [Nat.zero_add]
    by_cases hji : j = i
    · subst hji; rw [hi] at hj; simp at hj; subst hj; exact absurd hx' hx
    · exact h2 j hji

theorem stS_none : ∀ (ws : List (List (Nat × A))) (S : Nat → Bool) (σ : Nat → A) (k : Nat), (∀ j, k ≤ j → S j = false) → stS S σ ws k = σ := by
  intro ws
  induction ws with
  | nil => intro S σ k _; rfl
  | cons W ws ih => intro S σ k h; simp only [stS]; rw [h k (Nat.le_refl _)]; exact ih S _ _ (fun j hj => h j (by omega))

theorem stS_take : ∀ (ws : List (List (Nat × A))) (i : Nat) (σ : Nat → A) (k : Nat), stS (fun _ => true) σ (ws.take i) k = stS (fun j => decide (j < k + i)) σ ws k := by
  intro ws
  induction ws with
  | nil => intro i σ k; simp [stS]
  | cons W ws ih =>
    intro i σ k
    cases i with
    | zero => rw [List.take_zero]; rw [stS_none (W :: ws) _ σ k (fun j hj => by simp; omega)]; rfl
    | succ i =>
      rw [List.take_succ_cons]
      simp only [stS, if_true]
      rw [ih, if_pos (by simp)]
      congr 1
      funext j; congr 1; rw [show k + 1 + i = k + (i + 1) by omega]

theorem stS_app : ∀ (pre ws : List (List (Nat × A))) (σ : Nat → A) (k : Nat), stS (fun _ => true) σ (pre ++ ws) k = stS (fun _ => true) (stS (fun _ => true) σ pre k) ws (k + pre.length) := by
  intro pre
  induction pre with
  | nil => intro ws σ k; rfl
  | cons p pre ih =>
    intro ws σ k
    simp only [List.cons_append, stS, if_true, List.length_cons]
    rw [ih]; congr 1; omega
end states

/-- The list of a function's first n values. -/
def listOf (n : Nat) (f : Nat → O) : List O := (List.range n).map f
def setH (H : List O) (ow : List (Nat × O)) : List O := H.zipIdx.map fun q => (ow.lookup q.2).getD q.1

theorem listOf_get {n i : Nat} {f : Nat → O} : (listOf n f)[i]? = if i < n then some (f i) else none := by
  simp only [listOf, List.getElem?_map]
  split
  · rename_i h; rw [List.getElem?_range h]; rfl
  · rename_i h; rw [List.getElem?_eq_none (by simpa using h)]; rfl
theorem listOf_self (H : List O) : listOf H.length (fun i => H.getD i default) = H := by
  apply List.ext_getElem?
  intro i
  rw [listOf_get]
  split
  · rename_i h; simp [h]
  · rename_i h; rw [List.getElem?_eq_none (by omega)]
theorem setH_get {H : List O} {ow : List (Nat × O)} {i : Nat} : (setH H ow)[i]? = (H[i]?).map fun o => (ow.lookup i).getD o := by
  simp only [setH, List.getElem?_map, List.getElem?_zipIdx, Option.map_map]
  cases H[i]? <;> simp
theorem setH_listOf {n : Nat} {f : Nat → O} {ow : List (Nat × O)} : setH (listOf n f) ow = listOf n (updW f ow) := by
  apply List.ext_getElem?
  intro i
  rw [setH_get, listOf_get, listOf_get]
  split <;> rfl
theorem setH_one {H : List O} {id : Nat} {n : O} : setH H [(id, n)] = H.set id n := by
  apply List.ext_getElem?
  intro i
  rw [setH_get, List.getElem?_set]
  by_cases h : id = i
  · subst h
    simp only [List.lookup_cons, beq_self_eq_true, Option.getD_some, if_true]
    split
    · rename_i h; simp [h]
    · rename_i h; rw [List.getElem?_eq_none (by omega)]; rfl
  · have : (i == id) = false := by rw [beq_eq_false_iff_ne]; exact fun e => h e.symm
    simp only [List.lookup_cons, this, List.lookup_nil, Option.getD_none, if_neg h]
    cases H[i]? <;> rfl
theorem setH_nil {H : List O} : setH H [] = H := by
  apply List.ext_getElem?
  intro i
  rw [setH_get]
  cases H[i]? <;> rfl
theorem setH_length {H : List O} {ow : List (Nat × O)} : (setH H ow).length = H.length := by simp [setH]

/-! ### One operation of the body -/
def dstW (d : Option Tmp) (v : V) : List (Nat × Option V) :=
  match d with
  | some d => [(d, some v)]
  | none => []

def hintIds : Hint → List Nat
  | .res r => [r]
  | .hcall ids _ _ => ids.map (·.1)
  | _ => []

def footOf (o : Oper) (h : Hint) (lk : Nat → Option V) : List Nat := o.op.operands.toList.flatMap (fun x => (getF lk x).ids) ++ hintIds h

def isRow0 : Option O → Bool
  | some (.data []) => true
  | _ => false

def hcVal (P : Program) (ids : List (Nat × Bool)) (r : V) (H' : List O) (n : Nat) (Hs : List O) (fv : V) (gs : List V) : Option (V × List Prop) :=
  match fv with
  | .fn (.func f) first cap => some (r.re (outIds (ids.map (·.1)) n), [HCall P f ((first ++ gs ++ cap).map (V.re (inIds (ids.map (·.1)) 0))) Hs r H'])
  | .yld k => some (r.re (outIds (ids.map (·.1)) n), [YCall P ((.yld k :: gs).map (V.re (inIds (ids.map (·.1)) 0))) Hs r H'])
  | _ => none

def evB (P : Program) (tt : Tab) (N : Nat) (dsts : List (Option Tmp)) (o : Oper) (h : Hint) (lk : Nat → Option V) (H : List O) : Option (List (Nat × Option V) × List (Nat × O) × List Prop) :=
  if dstOk N o.dst then
    match h with
    | .res r =>
      if isRow0 H[r]? && o.guard.isNone then
        match o.op with
        | .alloc t => (tt.lookup t).map fun i => (dstW o.dst (.ref r 0), [(r, .cells (i.zero.map fun z => .d (.v z)))], [])
        | .box _ x => (getF lk x).cells.map fun vs => (dstW o.dst (.ref r 0), [(r, .cells vs)], [])
        | _ => none
      else none
    | .hcall ids r H' =>
      if o.guard.isNone && nodupB (ids.map (·.1)) then
        match o.op with
        | .call c =>
          match c.callee with
          | .value f =>
            match subH H (ids.map (·.1)) ids, oldH H' (outIds (ids.map (·.1)) H.length) 0 ids with
            | some Hs, some olds =>
              match hcVal P ids r H' H.length Hs (getF lk f) (c.args.toList.map (getF lk)) with
              | some (v, ps) => if Hs.all (fun o => !o.isData) && Nat.beq H'.length ids.length then some (dstW o.dst v, (ids.map (·.1)).zip olds, ps) else none
              | none => none
            | _, _ => none
          | _ => none
        | _ => none
      else none
    | h =>
      match o.op with
      | .store t x y =>
        if o.guard.isNone then
          match tt.lookup t, getF lk x with
          | some i, .ref id off => (evStore i h [] H (.ref id off) (getF lk y)).map fun q => (dstW o.dst .top, [(id, q.2.2.1.getD id default)], q.2.2.2)
          | _, _ => none
        else none
      | _ => if isEff o h then none else (evVal P tt dsts o h lk H).map fun q => (dstW o.dst q.1, [], q.2)
  else none

structure BRec where
  sw : List (Nat × Option V)
  ow : List (Nat × O)
  foot : List Nat
  res : Option Nat

def resOf : Hint → Option Nat
  | .res r => some r
  | _ => none

def evBody (P : Program) (tt : Tab) (N : Nat) (dsts : List (Option Tmp)) : List Oper → List Hint → (Nat → Option V) → List O → Option ((Nat → Option V) × List O × List Prop × List BRec)
  | [], _, lk, H => some (lk, H, [], [])
  | o :: os, hs, lk, H =>
    match evB P tt N dsts o (hs.headD .no) lk H with
    | none => none
    | some (sw, ow, ps) =>
      match evBody P tt N dsts os hs.tail (updW lk sw) (setH H ow) with
      | none => none
      | some (lk2, H2, qs, rs) => some (lk2, H2, ps ++ qs, ⟨sw, ow, footOf o (hs.headD .no) lk, resOf (hs.headD .no)⟩ :: rs)

def meetB (xs ys : List Nat) : Bool := xs.any fun x => memB x ys

def vIds : Option V → List Nat
  | some v => v.ids
  | none => []
/-- What an operation leaves names r. -/
def namesB (r : Nat) (q : BRec) : Bool := q.sw.any (fun p => memB r (vIds p.2)) || q.ow.any (fun p => memB r p.2.ids)

/-- Two operations of the body, i ahead of j. -/
def apart2 (dsts : List (Option Tmp)) (as : List (List Nat)) (i j : Nat) (oi oj : Oper) (qi qj : BRec) : Bool :=
  (memB i (as.getD j []) ||
    (!meetB (qi.sw.map (·.1)) (looks dsts oj) && !meetB (qi.sw.map (·.1)) (qj.sw.map (·.1)) && !meetB (qj.sw.map (·.1)) (looks dsts oi) &&
      !meetB (qi.ow.map (·.1)) qj.foot && !meetB (qi.ow.map (·.1)) (qj.ow.map (·.1)) && !meetB (qj.ow.map (·.1)) qi.foot)) &&
  (match qi.res with
   | some r => memB i (as.getD j []) || !namesB r qj
   | none => true) &&
  (match qj.res with
   | some r => !namesB r qi
   | none => true)

def pairs2 (dsts : List (Option Tmp)) (as : List (List Nat)) (i : Nat) (oi : Oper) (qi : BRec) : List Oper → List BRec → Nat → Bool
  | oj :: os, qj :: qs, j => apart2 dsts as i j oi oj qi qj && pairs2 dsts as i oi qi os qs (j + 1)
  | _, _, _ => true
def allPairs2 (dsts : List (Option Tmp)) (as : List (List Nat)) : List Oper → List BRec → Nat → Bool
  | o :: os, q :: qs, i => pairs2 dsts as i o q os qs (i + 1) && allPairs2 dsts as os qs (i + 1)
  | _, _, _ => true

/-- The reserved numbers are named by nothing at the start. -/
def resFresh (T : St) (H : List O) (rs : List BRec) : Bool :=
  rs.all fun q => match q.res with
    | some r => T.all (fun p => !memB r p.2.ids) && H.all (fun o => !memB r o.ids)
    | none => true

def any0B (ops : List Oper) (m : Nat) : Bool :=
  Nat.ble m ops.length && allBackB ops 0 && tailB (ancs ops []) m (ops.length - m)

def evAny (P : Program) (tt : Tab) (N m : Nat) (ops : Array Oper) (hs : List Hint) (mid ks : List Nat) (T : St) (H : List O) : Option (St × List O × List Prop) :=
  if any0B ops.toList m then
    match evBody P tt N (ops.toList.map (·.dst)) (ops.toList.take m) hs (fun x => T.lookup x) H with
    | none => none
    | some (lk1, H1, ps, rs) =>
      if allPairs2 (ops.toList.map (·.dst)) (ancs ops.toList []) (ops.toList.take m) rs 0 && resFresh T H rs then
        match evOps P tt N (ops.toList.map (·.dst)) (ops.toList.drop m) (hs.drop m) (mid.filterMap fun k => (lk1 k).map fun v => (k, v)) H1 with
        | none => none
        | some (T2, H2, qs) => some (keepT ks T2, H2, ps ++ qs)
      else none
  else none
end Go.Sx
