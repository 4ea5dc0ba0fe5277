/- Regions that draw their order: sound. -/
import Derived.Test.YtadejgckgnbaoaaSxDraw
namespace Go.Sx
open Go
set_option linter.unusedSimpArgs false
set_option linter.unusedVariables false

def getF (lk : Nat → Option V) : Operand → V
  | .tmp t => (lk t).getD .top
  | .const v => constV v
  | .func f => .fn (.func f) [] []
  | .global _ => .top

def guardF (dsts : List (Option Tmp)) (lk : Nat → Option V) : Option (Nat × Bool) → Option (Option Bool)
  | none => some none
  | some (j, want) =>
    match dsts[j]? with
    | some (some d) =>
      match lk d with
      | some (.d (.v (.bool b))) => some (some (cond want b (!b)))
      | some (.when g (.d (.v (.bool b)))) => some (some (g && cond want b (!b)))
      | _ => none
    | _ => none

/-- The value of an operation that makes nothing of its own. -/
def evVal (P : Program) (tt : Tab) (dsts : List (Option Tmp)) (o : Oper) (h : Hint) (lk : Nat → Option V) (H : List O) : Option (V × List Prop) :=
  match guardF dsts lk o.guard with
  | none => none
  | some none => evPure P tt o h (getF lk) H
  | some (some g) => evGuard P tt o h g (getF lk) H

theorem getF_lookup (T : St) : getF (fun x => T.lookup x) = getV T := by funext x; cases x <;> rfl

section
variable {P : Program} {tt : Tab} {N : Nat} {dsts : List (Option Tmp)} {o : Oper} {h : Hint} {T T' : St} {H H' : List O} {ps : List Prop}

theorem evOne_val (hne : (isEff o h || isHC h) = false) (he : evOne P tt N dsts o h T H = some (T', H', ps)) :
    dstOk N o.dst = true ∧ H' = H ∧ ∃ v, evVal P tt dsts o h (fun x => T.lookup x) H = some (v, ps) ∧ T' = putT o.dst v T := by
  unfold evOne at he
  split at he
  · rename_i hd
    refine ⟨hd, ?_⟩
    have hg : guardF dsts (fun x => T.lookup x) o.guard = guardOf dsts T o.guard := rfl
    unfold evVal
    rw [hg]
    split at he
    · simp at he
    · rename_i hg'
      rw [hg']
      simp only [Bool.or_eq_false_iff] at hne
      rw [if_neg (by simp [hne.1]), if_neg (by simp [hne.2])] at he
      simp only [Option.map_eq_some_iff, Prod.mk.injEq] at he
      obtain ⟨⟨v, qs⟩, h1, rfl, rfl, rfl⟩ := he
      exact ⟨rfl, v, by rw [getF_lookup]; exact h1, rfl⟩
    · rename_i g hg'
      rw [hg']
      simp only [Bool.or_eq_false_iff] at hne
      rw [if_neg (by simp [hne.1])] at he
      simp only [Option.map_eq_some_iff, Prod.mk.injEq] at he
      obtain ⟨⟨v, qs⟩, h1, rfl, rfl, rfl⟩ := he
      refine ⟨rfl, _, ?_, rfl⟩
      simp only [getF_lookup]
      exact h1
  · simp at he

theorem evVal_congr {lk lk' : Nat → Option V} (hl : ∀ x ∈ looks dsts o, lk x = lk' x) : evVal P tt dsts o h lk H = evVal P tt dsts o h lk' H := by
  have hop : ∀ x ∈ o.op.operands, getF lk x = getF lk' x := by
    intro x hx
    cases x with
    | tmp t =>
      simp only [getF]
      rw [hl t]
      simp only [looks, List.mem_append, List.mem_filterMap]
      exact .inl ⟨.tmp t, by simpa using hx, rfl⟩
    | _ => rfl
  have hg : guardF dsts lk o.guard = guardF dsts lk' o.guard := by
    unfold guardF
    cases hog : o.guard with
    | none => rfl
    | some p =>
      obtain ⟨j, want⟩ := p
      simp only []
      cases hd : dsts[j]? with
      | none => rfl
      | some d =>
        cases d with
        | none => rfl
        | some d =>
          simp only []
          rw [hl d]
          simp only [looks, List.mem_append, hog, hd]
          right
          simp
  have e2 := evPure_congr (P := P) (tt := tt) (h := h) (H := H) (o := o) (get := fun x => (getF lk x).bare) (get' := fun x => (getF lk' x).bare) (fun x hx => by simp only [hop x hx])
  have e3 : condsOf (getF lk) o = condsOf (getF lk') o := by
    unfold condsOf
    rw [List.flatMap_def, List.flatMap_def, List.map_congr_left]
    intro x hx
    rw [hop x (by simpa using hx)]
  have e0 : ∀ g, evGuard P tt o h g (getF lk) H = evGuard P tt o h g (getF lk') H := by
    intro g
    unfold evGuard
    split
    · rename_i c x y ho
      rw [hop c (by simp [ho, Op.operands]), hop x (by simp [ho, Op.operands]), hop y (by simp [ho, Op.operands])]
    · rw [e2, e3]
  unfold evVal
  rw [hg]
  simp only [e0]
  have e1 := evPure_congr (P := P) (tt := tt) (h := h) (H := H) (o := o) hop
  rw [e1]
end

def upd (lk : Nat → Option V) (d : Option Tmp) (v : V) : Nat → Option V := fun x => if d = some x then some v else lk x

/-- The slots when just the operations in S have been carried out. -/
def lkS (S : Nat → Bool) : (Nat → Option V) → List (Option Tmp × V) → Nat → Nat → Option V
  | lk, [], _ => lk
  | lk, (d, v) :: ws, k => lkS S (if S k then upd lk d v else lk) ws (k + 1)

theorem lkS_agree {S S' : Nat → Bool} {x : Nat} : ∀ (ws : List (Option Tmp × V)) (lk lk' : Nat → Option V) (k : Nat), lk x = lk' x → (∀ (j : Nat) d v, ws[j]? = some (d, v) → d = some x → S (k + j) = S' (k + j)) →
    lkS S lk ws k x = lkS S' lk' ws k x := by
  intro ws
  induction ws with
  | nil => intro lk lk' k h _; exact h
  | cons p ws ih =>
    intro lk lk' k h hs
    obtain ⟨d, v⟩ := p
    simp only [lkS]
    refine ih _ _ _ ?_ (fun j d' v' hj hd => by
      have := hs (j + 1) d' v' (by simpa using hj) hd
      rwa [show k + (j + 1) = k + 1 + j by omega] at this)
    by_cases hd : d = some x
    · have := hs 0 d v rfl hd
      simp only [Nat.add_zero] at this
      rw [this]
      split <;> simp [upd, hd, h]
    · split <;> split <;> simp [upd, hd, h]

theorem lkS_last {S : Nat → Bool} {x : Nat} : ∀ (ws : List (Option Tmp × V)) (lk : Nat → Option V) (k i : Nat) (v : V), ws[i]? = some (some x, v) → S (k + i) = true →
    (∀ (j : Nat) d u, i < j → ws[j]? = some (d, u) → d = some x → S (k + j) = false) → lkS S lk ws k x = some v := by
  intro ws
  induction ws with
  | nil => intro lk k i v h; simp at h
  | cons p ws ih =>
    intro lk k i v h hs hno
    obtain ⟨d, u⟩ := p
    simp only [lkS]
    cases i with
    | succ i =>
      refine ih _ (k + 1) i v (by simpa using h) (by rwa [show k + 1 + i = k + (i + 1) by omega]) (fun j d' u' hj hu hd => ?_)
      have := hno (j + 1) d' u' (by omega) (by simpa using hu) hd
      rwa [show k + (j + 1) = k + 1 + j by omega] at this
    | zero =>
      simp at h
      obtain ⟨rfl, rfl⟩ := h
      simp only [Nat.add_zero] at hs
      rw [hs]
      have := lkS_agree (S := S) (S' := fun _ => false) (x := x) ws (if true = true then upd lk (some x) u else lk) (if true = true then upd lk (some x) u else lk) (k + 1) rfl (fun j d' u' hj hd => by
        have := hno (j + 1) d' u' (by omega) (by simpa using hj) hd
        rwa [show k + (j + 1) = k + 1 + j by omega] at this)
      rw [this]
      have hfalse : ∀ (ws : List (Option Tmp × V)) (lk : Nat → Option V) (k : Nat), lkS (fun _ => false) lk ws k = lk := by
        intro ws
        induction ws with
        | nil => intro lk k; rfl
        | cons p ws ih => intro lk k; obtain ⟨d, v⟩ := p; simp only [lkS, Bool.false_eq_true, if_false]; exact ih _ _
      rw [hfalse]
      simp [upd]

theorem lookup_putT (dst : Option Tmp) (v : V) (T : St) : (fun x => (putT dst v T).lookup x) = upd (fun x => T.lookup x) dst v := by
  funext x
  cases dst with
  | none => simp [putT, upd]
  | some d =>
    simp only [putT, upd, List.lookup_cons, Option.some.injEq]
    by_cases hx : d = x
    · subst hx; simp
    · simp only [hx, if_false]
      rw [show (x == d) = false by simpa using fun e => hx e.symm]
      induction T with
      | nil => rfl
      | cons p T ih =>
        obtain ⟨k, u⟩ := p
        rw [List.filter_cons]
        by_cases hk : k = d
        · subst hk
          simp only [bne_self_eq_false, Bool.false_eq_true, if_false]
          simp only [ih, List.lookup_cons]
          rw [show (x == k) = false by simpa using fun e => hx e.symm]
        · simp only [bne_iff_ne, ne_eq, hk, not_false_eq_true, if_true, List.lookup_cons]
          split <;> simp_all

structure InvF (N : Nat) (Γ : Ctx) (lk : Nat → Option V) (bs : Bs) (Z : Nat → Prop) (a : Act) (w : World) : Prop where
  size : a.tmps.size = N
  defers : DefOk Γ Z w a.defers
  rel : ∀ i x, lk i = some x → i < N ∧ RV bs Z w x (a.tmps.getD i undef)

theorem InvF.get {N : Nat} {Γ : Ctx} {lk : Nat → Option V} {bs : Bs} {Z : Nat → Prop} {a : Act} {w : World} (hI : InvF N Γ lk bs Z a w) (x : Operand) : RV bs Z w (getF lk x) (a.eval x) := by
  cases x with
  | tmp t =>
    simp only [getF, Act.eval]
    cases hl : lk t with
    | none => exact .top _
    | some v => exact (hI.rel t v hl).2
  | const v =>
    simp only [getF, Act.eval, constV]
    split
    · rename_i h; exact .d _ _ (.v _ h)
    · exact .top _
  | global g => exact .top _
  | func f => exact .fn _ _ _ _ _ (fun _ => undef) (fun _ => undef) rfl rfl (fun j hj => by simp at hj) (fun j hj => by simp at hj) (fun j x h => by simp at h) (fun j x h => by simp at h)

theorem InvT.toF {N : Nat} {Γ : Ctx} {T : St} {bs : Bs} {Z : Nat → Prop} {a : Act} {w : World} (h : InvT N Γ T bs Z a w) : InvF N Γ (fun x => T.lookup x) bs Z a w :=
  ⟨h.size, h.defers, fun i x hx => h.rel i x (mem_of_lookup hx)⟩

theorem InvF.toT {N : Nat} {Γ : Ctx} {T : St} {bs : Bs} {Z : Nat → Prop} {a : Act} {w : World} (h : InvF N Γ (fun x => T.lookup x) bs Z a w) (ks : List Nat) : InvT N Γ (keepT ks T) bs Z a w := by
  refine ⟨h.size, h.defers, fun i x hx => ?_⟩
  simp only [keepT, List.mem_filterMap, Option.map_eq_some_iff, Prod.mk.injEq] at hx
  obtain ⟨k, _, v, hl, rfl, rfl⟩ := hx
  exact h.rel k v hl

theorem InvF.mono {N : Nat} {Γ : Ctx} {lk : Nat → Option V} {bs bs' : Bs} {Z Z' : Nat → Prop} {a : Act} {w w' : World} (h : InvF N Γ lk bs Z a w) (hb : ∀ (i : Nat) (o : Option (Nat × Nat)), bs[i]? = some o → bs'[i]? = some o) (hZ : ∀ b, Z b → Z' b)
    (hw : ∀ b, Z b → w'.heap[b]? = w.heap[b]?) : InvF N Γ lk bs' Z' a w' := ⟨h.size, h.defers.mono hZ hw, fun i x hx => ⟨(h.rel i x hx).1, (h.rel i x hx).2.mono hb hZ hw⟩⟩

theorem InvF.put {N : Nat} {Γ : Ctx} {lk : Nat → Option V} {bs : Bs} {Z : Nat → Prop} {a : Act} {w : World} {dst : Option Tmp} {v : V} {c : Value} (hI : InvF N Γ lk bs Z a w) (hd : dstOk N dst = true) (hv : RV bs Z w v c) :
    InvF N Γ (upd lk dst v) bs Z (a.put dst c) w := by
  cases dst with
  | none => refine ⟨hI.size, hI.defers, fun i x hx => hI.rel i x (by simpa [upd] using hx)⟩
  | some d =>
    simp [dstOk] at hd
    refine ⟨by simp [Act.put, hI.size], hI.defers, fun i x hx => ?_⟩
    simp only [upd, Option.some.injEq] at hx
    split at hx
    · rename_i e
      subst e
      simp at hx; subst hx
      refine ⟨hd, ?_⟩
      simp only [Act.put]
      rw [Array.getD_eq_getD_getElem?, Array.getElem?_setIfInBounds_self_of_lt (by rw [hI.size]; exact hd)]
      exact hv
    · rename_i hne
      have := hI.rel i x hx
      refine ⟨this.1, ?_⟩
      simp only [Act.put]
      rw [Array.getD_eq_getD_getElem?, Array.getElem?_setIfInBounds_ne hne, ← Array.getD_eq_getD_getElem?]
      exact this.2

section exec
variable {P : Program} {tt : Tab} {N : Nat} {H : List O}

/-- One operation of the body. -/
theorem evVal_sound (hT : Tab.ok P tt) {ops : Array Oper} {o : Oper} {h : Hint} {Γ : Ctx} {a : Act} {w : World} {bs : Bs} {Z : Nat → Prop} {lk : Nat → Option V} {v : V} {ps : List Prop} {ro : Option Nat} {next : Act → World → Prop} {Q : Exit → Act → World → Prop}
    (he : evVal P tt (ops.toList.map (·.dst)) o h lk H = some (v, ps)) (hp : ∀ p ∈ ps, p) (hW : InvW Γ H bs Z w) (hI : InvF N Γ lk bs Z a w)
    (hn : ∀ c w' Z', Grow Z w Z' w' → RV bs Z' w' v c → next (a.put o.dst c) w') :
    if Region.wanted o (yielded ops a.tmps) then o.wpIn (wideAt ro) 0 P a w next Q else next (a.put o.dst undef) w := by
  unfold evVal at he
  split at he
  · simp at he
  · rename_i hg
    have hgn : o.guard = none := by
      unfold guardF at hg
      split at hg
      · rename_i e; exact e
      · split at hg
        · split at hg <;> simp at hg
        · simp at hg
    have hwant : Region.wanted o (yielded ops a.tmps) = true := by simp [Region.wanted, hgn]
    rw [if_pos hwant]
    exact wp_to_in (evPure_nd he) ro (evPure_sound hT hW hI.get he hp next Q hn)
  · rename_i g hg
    obtain ⟨v', rfl, hnd, hyy⟩ := evGuard_sound hT he hp
    have hyield : ∃ j want, o.guard = some (j, want) ∧ (g = true → yielded ops a.tmps j = some want) ∧ (g = false → yielded ops a.tmps j ≠ some want) := by
      unfold guardF at hg
      split at hg
      · simp at hg
      · rename_i j want hog
        refine ⟨j, want, hog, ?_⟩
        split at hg
        · rename_i d hdj
          have hdj' : (ops[j]?).bind (·.dst) = some d := by
            simp only [List.getElem?_map, Option.map_eq_some_iff, Array.getElem?_toList] at hdj
            obtain ⟨oj, h2, h3⟩ := hdj
            simp [h2, h3]
          have hval : ∀ {u : V}, lk d = some u → d < N ∧ RV bs Z w u (a.tmps.getD d undef) := fun hl => hI.rel d _ hl
          have hy : ∀ c, d < N → a.tmps.getD d undef = c → yielded ops a.tmps j = (match c with | .bool b => some b | _ => none) := by
            intro c hlt hc
            have : a.tmps[d]? = some c := by
              rw [← hc, Array.getD_eq_getD_getElem?]
              have : d < a.tmps.size := by rw [hI.size]; exact hlt
              simp [this]
            simp only [yielded, hdj', Option.bind_some, this]
            cases c <;> rfl
          split at hg
          · rename_i b hl
            simp at hg
            subst hg
            obtain ⟨hlt, hr⟩ := hval hl
            have := hy _ hlt hr.bool
            simp only at this
            rw [this]
            cases want <;> cases b <;> simp
          · rename_i g1 b hl
            simp at hg
            subst hg
            obtain ⟨hlt, hr⟩ := hval hl
            generalize hc : a.tmps.getD d undef = c at hr
            cases hr with | when _ _ _ h2 h3 =>
            cases g1 with
            | true =>
              have := hy _ hlt (hc.trans (h2 rfl).bool)
              simp only at this
              rw [this]
              cases want <;> cases b <;> simp
            | false =>
              have := hy _ hlt (hc.trans (h3 rfl))
              simp only [undef] at this
              rw [this]
              simp
          · simp at hg
        · simp at hg
    obtain ⟨j, want, hog, hy1, hy2⟩ := hyield
    have hwant : Region.wanted o (yielded ops a.tmps) = g := by
      simp only [Region.wanted, hog]
      cases g with
      | true => simp [hy1 rfl]
      | false => have := hy2 rfl; simp [this]
    rw [hwant]
    cases g with
    | false =>
      simp only [Bool.false_eq_true, if_false]
      exact hn undef w Z (Grow.refl _ _) (.when _ _ _ (fun h => by simp at h) (fun _ => rfl))
    | true =>
      simp only [if_true]
      refine wp_to_in hnd ro (hyy rfl hW hI.get next Q ?_)
      intro c w' Z' hg' hv
      exact hn c w' Z' hg' (.when _ _ _ (fun _ => hv) (fun h => by simp at h))

/-- What the body's run in the text's order tells of each of its operations. -/
theorem body_run {dsts : List (Option Tmp)} : ∀ (os : List Oper) (hs : List Hint) (T T1 : St) (H1 : List O) (ps : List Prop) (k : Nat) (lk0 : Nat → Option V) (pre : List (Option Tmp × V)),
    noEff os hs = true → evOps P tt N dsts os hs T H = some (T1, H1, ps) → pre.length = k → (fun x => T.lookup x) = lkS (fun _ => true) lk0 pre 0 →
    H1 = H ∧ ∃ ws : List (Option Tmp × V), ws.length = os.length ∧ (fun x => T1.lookup x) = lkS (fun _ => true) lk0 (pre ++ ws) 0 ∧
      ∀ (i : Nat) o, os[i]? = some o → dstOk N o.dst = true ∧ ∃ v qs h, ws[i]? = some (o.dst, v) ∧ (∀ q ∈ qs, q ∈ ps) ∧ evVal P tt dsts o h (lkS (fun _ => true) lk0 ((pre ++ ws).take (k + i)) 0) H = some (v, qs) := by
  have happ : ∀ (pre ws : List (Option Tmp × V)) (lk : Nat → Option V) (k : Nat), lkS (fun _ => true) lk (pre ++ ws) k = lkS (fun _ => true) (lkS (fun _ => true) lk pre k) ws (k + pre.length) := by
    intro pre
    induction pre with
    | nil => intro ws lk k; rfl
    | cons p pre ih =>
      intro ws lk k
      obtain ⟨d, v⟩ := p
      simp only [List.cons_append, lkS, if_true, List.length_cons]
      rw [ih]
      congr 1; omega
  intro os
  induction os with
  | nil =>
    intro hs T T1 H1 ps k lk0 pre hn he hk hl
    simp [evOps] at he
    obtain ⟨rfl, rfl, rfl⟩ := he
    exact ⟨rfl, [], rfl, by simpa using hl, fun i o h => by simp at h⟩
  | cons o os ih =>
    intro hs T T1 H1 ps k lk0 pre hn he hk hl
    simp only [noEff, Bool.and_eq_true, Bool.not_eq_true'] at hn
    unfold evOps at he
    split at he
    · simp at he
    · rename_i T2 H2 p1 h1
      obtain ⟨hd, rfl, v, hv, rfl⟩ := evOne_val hn.1 h1
      split at he
      · simp at he
      · rename_i T3 H3 qs h2
        simp at he
        obtain ⟨rfl, rfl, rfl⟩ := he
        obtain ⟨rfl, ws, e1, e2, e3⟩ := ih hs.tail _ _ _ _ (k + 1) lk0 (pre ++ [(o.dst, v)]) hn.2 h2 (by simp [hk]) (by
          rw [lookup_putT, hl, happ]
          simp [lkS])
        refine ⟨rfl, (o.dst, v) :: ws, by simp [e1], by simpa using e2, fun i o' ho => ?_⟩
        cases i with
        | zero =>
          simp at ho; subst ho
          refine ⟨hd, v, p1, hs.headD .no, rfl, fun q hq => List.mem_append_left _ hq, ?_⟩
          have : ((pre ++ (o.dst, v) :: ws).take (k + 0)) = pre := by rw [Nat.add_zero, ← hk, List.take_left']; rfl
          rw [this, ← hl]
          exact hv
        | succ i =>
          simp at ho
          obtain ⟨g1, v', qs', h', g2, g3, g4⟩ := e3 i o' ho
          refine ⟨g1, v', qs', h', by simpa using g2, fun q hq => List.mem_append_right _ (g3 q hq), ?_⟩
          rw [show k + (i + 1) = k + 1 + i by omega]
          simpa using g4
end exec
end Go.Sx
