/- Regions in the order of the text; the rules for code; functions. -/
import Derived.Test.YtadejgckgnbaoaaSxCall
namespace Go.Sx
open Go
set_option linter.unusedSimpArgs false
set_option linter.unusedVariables false

section eff
variable {P : Program} {tt : Tab} {bs : Bs} {Z : Nat → Prop} {w : World} {o : Oper} {a : Act} {v : V} {ps : List Prop} {N : Nat} {Γ : Ctx} {T T' : St} {H H' : List O}

/-- What is no defer statement. -/
def NoDefer (o : Oper) : Prop := ∀ c, o.op ≠ .defer c
theorem evEff_nd {h : Hint} {q : V × St × List O × List Prop} (he : evEff P tt o h T H = some q) : NoDefer o := by
  intro c hc
  unfold evEff at he
  simp [hc] at he
theorem evPure_nd {h : Hint} {get : Operand → V} {q : V × List Prop} (he : evPure P tt o h get H = some q) : NoDefer o := by
  intro c hc
  unfold evPure at he
  simp [hc] at he
theorem rows_in {row : String} {args : Array Value} {R : Value → World → Prop} {ro : Option Nat} {n : Nat} (h : Rows P row args w R) : RowsIn (wideAt ro) n P row args w R := by
  intro c cs _
  obtain ⟨v, w', hr, hs⟩ := h c cs
  exact ⟨v, w', hr, stepsIn_wide.2 hs⟩
theorem calls_in {f : FuncId} {args : Array Value} {R : Ending → World → Prop} {ro : Option Nat} {n : Nat} (h : Calls P f args w R) : CallsIn (wideAt ro) n P f args w R :=
  (callsIn_wide (n := n)).2 h
theorem wp_to_in {next : Act → World → Prop} {Q : Exit → Act → World → Prop} (hnd : NoDefer o) (ro : Option Nat) (h : o.wp P a w next Q) : o.wpIn (wideAt ro) 0 P a w next Q := by
  refine ⟨fun _ _ => trivial, ?_⟩
  rw [Oper.semAt_eq _ _ _ hnd]
  unfold Oper.wp at h
  generalize (execOp a.eval o).run P w = r at *
  cases r with
  | ok x w' =>
    cases x with
    | value v => exact h
    | skip => exact h
    | defer d => exact h
    | enter f args => exact ⟨fun h => by simp [wideAt, Fence.wide] at h, calls_in h⟩
    | row r args => exact ⟨fun h => by simp [wideAt, Fence.wide] at h, rows_in h⟩
    | _ => exact h.elim
  | halt x w' =>
    cases x <;> exact h

theorem evEff_sound (hT : Tab.ok P tt) (hW : InvW Γ H bs Z w) (hI : InvT N Γ T bs Z a w) {h : Hint} (he : evEff P tt o h T H = some (v, T', H', ps)) (hp : ∀ p ∈ ps, p) : Does P N Γ o a w v T' H' := by
  unfold evEff at he
  split at he
  · rename_i t ho
    simp only [Option.map_eq_some_iff, Prod.mk.injEq] at he
    obtain ⟨i, hi, rfl, rfl, rfl, rfl⟩ := he
    exact alloc_sound hT hW hI ho hi
  · rename_i t x ho
    simp only [Option.map_eq_some_iff, Prod.mk.injEq] at he
    obtain ⟨vs, hv, rfl, rfl, rfl, rfl⟩ := he
    exact box_sound hW hI ho hv
  · rename_i t len parts ho
    split at he
    · rename_i hlen
      simp only [Option.bind_eq_some_iff, Option.map_eq_some_iff, Prod.mk.injEq] at he
      obtain ⟨i, hi, ⟨e, vs⟩, h1, ds, h2, rfl, rfl, rfl, rfl⟩ := he
      exact buildOwn_sound hT hW hI ho hi h1 h2 (by simp at hlen; omega)
    · simp at he
  · rename_i t x y ho
    simp only [Option.bind_eq_some_iff] at he
    obtain ⟨i, hi, he⟩ := he
    exact store_sound hT hW hI ho hi he hp
  · rename_i t x y ho
    simp only [Option.bind_eq_some_iff] at he
    obtain ⟨i, hi, he⟩ := he
    exact make_sound hT hW hI ho hi he hp
  · rename_i c ho
    split at he
    · rename_i s x t t' hc ha hty
      split at he
      · rename_i htt
        simp at htt
        simp only [Option.bind_eq_some_iff] at he
        obtain ⟨i, hi, he⟩ := he
        exact append_sound hT hW hI ho hc ha hty htt hi he hp
      · simp at he
    · rename_i s x t rest hc ha hty
      simp only [Option.bind_eq_some_iff] at he
      obtain ⟨i, hi, he⟩ := he
      exact copy_sound hT hW hI ho hc ha hty hi he
    · simp at he
  · rename_i t ho
    simp only [Option.map_eq_some_iff, Prod.mk.injEq] at he
    obtain ⟨i, hi, rfl, rfl, rfl, rfl⟩ := he
    exact makeMap_sound hW hI ho
  · rename_i t m k x ho
    simp only [Option.bind_eq_some_iff] at he
    obtain ⟨i, hi, he⟩ := he
    exact mapSet_sound hT hW hI ho hi he hp
  · simp at he

theorem RV.bare {x : V} {c : Value} (h : RV bs Z w x c) (hc : ∀ b ∈ x.cond, b = true) : RV bs Z w x.bare c := by
  cases x with
  | when b y =>
    cases h with | when _ _ _ h2 h3 => exact h2 (hc b (by simp [V.cond]))
  | _ => exact h

theorem mem_of_lookup {T : St} {t : Nat} {v : V} (hl : T.lookup t = some v) : (t, v) ∈ T := by
  induction T with
  | nil => simp at hl
  | cons p T ih =>
    obtain ⟨k, u⟩ := p
    rw [List.lookup_cons] at hl
    split at hl
    · rename_i he
      simp at he hl; subst he; subst hl; simp
    · exact List.mem_cons_of_mem _ (ih hl)

theorem InvT.put {dst : Option Tmp} {c : Value} (hI : InvT N Γ T bs Z a w) (hd : ∀ d, dst = some d → d < N) (hv : RV bs Z w v c) : InvT N Γ (putT dst v T) bs Z (a.put dst c) w := by
  cases dst with
  | none => exact hI
  | some d =>
    refine ⟨by simp [Act.put, hI.size], hI.defers, fun i x hx => ?_⟩
    simp only [putT, List.mem_cons, Prod.mk.injEq, List.mem_filter] at hx
    have hd := hd d rfl
    rcases hx with ⟨rfl, rfl⟩ | ⟨hx, hne⟩
    · refine ⟨hd, ?_⟩
      simp only [Act.put]
      rw [Array.getD_eq_getD_getElem?, Array.getElem?_setIfInBounds_self_of_lt (by rw [hI.size]; exact hd)]
      exact hv
    · have := hI.rel i x hx
      refine ⟨this.1, ?_⟩
      simp at hne
      simp only [Act.put]
      rw [Array.getD_eq_getD_getElem?, Array.getElem?_setIfInBounds_ne (by omega), ← Array.getD_eq_getD_getElem?]
      exact this.2
end eff

/-- What a guard says: nothing; or one Bool. -/
def guardOf (dsts : List (Option Tmp)) (T : St) : Option (Nat × Bool) → Option (Option Bool)
  | none => some none
  | some (j, want) =>
    match dsts[j]? with
    | some (some d) =>
      match T.lookup d with
      | some (.d (.v (.bool b))) => some (some (cond want b (!b)))
      | some (.when g (.d (.v (.bool b)))) => some (some (g && cond want b (!b)))
      | _ => none
    | _ => none

def condsOf (get : Operand → V) (o : Oper) : List Bool := o.op.operands.toList.flatMap fun x => (get x).cond

def dstOk (N : Nat) : Option Tmp → Bool
  | some d => Nat.blt d N
  | none => true

def isHC : Hint → Bool
  | .hcall _ _ _ => true
  | _ => false

/-- A guarded operation that makes nothing of its own; a pick with the hint 'own' looks at its ways by their own guards. -/
def evGuard (P : Program) (tt : Tab) (o : Oper) (h : Hint) (g : Bool) (get : Operand → V) (H : List O) : Option (V × List Prop) :=
  match o.op, h with
  | .pick c x y, .own => (evPick (get c).bare (get x) (get y)).map fun q => (.when g q.1, (get c).cond.map (fun c => g = true → c = true) ++ q.2.map (fun p => g = true → p))
  | _, _ => (evPure P tt o h (fun x => (get x).bare) H).map fun q => (.when g q.1, (condsOf get o).map (fun c => g = true → c = true) ++ q.2.map (fun p => g = true → p))

def evOne (P : Program) (tt : Tab) (N : Nat) (dsts : List (Option Tmp)) (o : Oper) (h : Hint) (T : St) (H : List O) : Option (St × List O × List Prop) :=
  if dstOk N o.dst then
    match guardOf dsts T o.guard with
    | none => none
    | some none =>
      if isEff o h then (evEff P tt o h T H).map fun q => (putT o.dst q.1 q.2.1, q.2.2.1, q.2.2.2)
      else if isHC h then
        match h with
        | .hcall ids r H' => (evHC P o ids r H' T H).map fun q => (putT o.dst q.1 q.2.1, q.2.2.1, q.2.2.2)
        | _ => none
      else (evPure P tt o h (getV T) H).map fun q => (putT o.dst q.1 T, H, q.2)
    | some (some g) =>
      if isEff o h then none
      else (evGuard P tt o h g (getV T) H).map fun q => (putT o.dst q.1 T, H, q.2)
  else none

def evOps (P : Program) (tt : Tab) (N : Nat) (dsts : List (Option Tmp)) : List Oper → List Hint → St → List O → Option (St × List O × List Prop)
  | [], _, T, H => some (T, H, [])
  | o :: os, hs, T, H =>
    match evOne P tt N dsts o (hs.headD .no) T H with
    | none => none
    | some (T1, H1, ps) =>
      match evOps P tt N dsts os hs.tail T1 H1 with
      | none => none
      | some (T2, H2, qs) => some (T2, H2, ps ++ qs)

def keepT (ks : List Nat) (T : St) : St := ks.filterMap fun k => (T.lookup k).map fun v => (k, v)

def evReg (P : Program) (tt : Tab) (N : Nat) (ops : Array Oper) (hs : List Hint) (ks : List Nat) (T : St) (H : List O) : Option (St × List O × List Prop) :=
  (evOps P tt N (ops.toList.map (·.dst)) ops.toList hs T H).map fun q => (keepT ks q.1, q.2.1, q.2.2)

def AllP : List Prop → Prop
  | [] => True
  | [p] => p
  | p :: ps => p ∧ AllP ps

theorem AllP.mem {ps : List Prop} (h : AllP ps) : ∀ p ∈ ps, p := by
  induction ps with
  | nil => intro p hp; simp at hp
  | cons q qs ih =>
    intro p hp
    cases qs with
    | nil => rw [List.mem_singleton] at hp; subst hp; exact h
    | cons r rs =>
      obtain ⟨h1, h2⟩ := h
      rcases List.mem_cons.1 hp with rfl | hp
      · exact h1
      · exact ih h2 p hp

section region
variable {P : Program} {tt : Tab} {rd : Bool} {N fl : Nat} {T T' : St} {H H' : List O} {ps : List Prop}

theorem Inv.keep {Γ : Ctx} {a : Act} {w : World} (h : Inv N Γ T H a w) (ks : List Nat) : Inv N Γ (keepT ks T) H a w := by
  obtain ⟨bs, Z, hW, hI⟩ := h
  refine ⟨bs, Z, hW, hI.size, hI.defers, fun i x hx => ?_⟩
  simp only [keepT, List.mem_filterMap, Option.map_eq_some_iff, Prod.mk.injEq] at hx
  obtain ⟨k, _, v, hl, rfl, rfl⟩ := hx
  exact hI.rel k v (mem_of_lookup hl)

/-- One operation of a region, at a given place. -/
theorem evGuard_sound (hT : Tab.ok P tt) {o : Oper} {ps : List Prop} {H : List O} {g : Bool} {get : Operand → V} {h : Hint} {v' : V} (he : evGuard P tt o h g get H = some (v', ps)) (hp : ∀ p ∈ ps, p) :
    ∃ v, v' = .when g v ∧ NoDefer o ∧ (g = true → ∀ {Γ : Ctx} {bs : Bs} {Z : Nat → Prop} {w : World} {a : Act}, InvW Γ H bs Z w → (∀ x, RV bs Z w (get x) (a.eval x)) → Yields P bs Z w o a v) := by
  unfold evGuard at he
  split at he
  · rename_i c x y ho
    simp only [Option.map_eq_some_iff, Prod.mk.injEq] at he
    obtain ⟨⟨v, qs⟩, h1, rfl, rfl⟩ := he
    refine ⟨v, rfl, fun c hc => by rw [ho] at hc; simp at hc, ?_⟩
    rintro rfl Γ bs Z w a hW hget
    have hcond : ∀ b ∈ (get c).cond, b = true := fun b hb => by
      have : (true = true → b = true) := hp _ (List.mem_append_left _ (List.mem_map.2 ⟨b, hb, rfl⟩))
      exact this rfl
    have hps : ∀ p ∈ qs, p := fun p hp' => hp (true = true → p) (List.mem_append_right _ (List.mem_map.2 ⟨p, hp', rfl⟩)) rfl
    exact pick_sound ho ((hget c).bare hcond) (hget x) (hget y) h1 hps
  · simp only [Option.map_eq_some_iff, Prod.mk.injEq] at he
    obtain ⟨⟨v, qs⟩, h1, rfl, rfl⟩ := he
    refine ⟨v, rfl, evPure_nd h1, ?_⟩
    rintro rfl Γ bs Z w a hW hget0
    have hcond : ∀ x ∈ o.op.operands, ∀ c ∈ (get x).cond, c = true := by
      intro x hx c hc
      have : (true = true → c = true) := hp _ (List.mem_append_left _ (List.mem_map.2 ⟨c, by
        simp only [condsOf, List.mem_flatMap]
        exact ⟨x, by simpa using hx, hc⟩, rfl⟩))
      exact this rfl
    have hps : ∀ p ∈ qs, p := fun p hp' => hp (true = true → p) (List.mem_append_right _ (List.mem_map.2 ⟨p, hp', rfl⟩)) rfl
    classical
    let get' : Operand → V := fun x => if x ∈ o.op.operands then (get x).bare else .top
    have hget : ∀ x, RV bs Z w (get' x) (a.eval x) := by
      intro x
      simp only [get']
      split
      · rename_i hx
        exact (hget0 x).bare (hcond x hx)
      · exact .top _
    have hcg : ∀ x ∈ o.op.operands, (fun x => (get x).bare) x = get' x := by
      intro x hx
      show (get x).bare = (if x ∈ o.op.operands then (get x).bare else V.top)
      rw [if_pos hx]
    rw [evPure_congr hcg] at h1
    exact evPure_sound hT hW hget h1 hps

theorem evOne_sound (hT : Tab.ok P tt) {ops : Array Oper} {o : Oper} {h : Hint} {ro : Option Nat} {Γ : Ctx} {a : Act} {w : World} {next : Act → World → Prop} {Q : Exit → Act → World → Prop}
    (he : evOne P tt N (ops.toList.map (·.dst)) o h T H = some (T', H', ps)) (hp : ∀ p ∈ ps, p) (hinv : Inv N Γ T H a w) (hn : ∀ a' w', Inv N Γ T' H' a' w' → next a' w') :
    if Region.wanted o (yielded ops a.tmps) then o.wpIn (wideAt ro) 0 P a w next Q else next (a.put o.dst undef) w := by
  obtain ⟨bs, Z, hW, hI⟩ := hinv
  unfold evOne at he
  split at he
  · rename_i hdst
    have hd : ∀ d, o.dst = some d → d < N := by
      intro d hd; rw [hd] at hdst; simpa [dstOk] using hdst
    split at he
    · simp at he
    · rename_i hg
      have hgn : o.guard = none := by
        unfold guardOf at hg
        split at hg
        · rename_i e; exact e
        · split at hg
          · split at hg <;> simp at hg
          · simp at hg
      have hwant : Region.wanted o (yielded ops a.tmps) = true := by simp [Region.wanted, hgn]
      rw [if_pos hwant]
      split at he
      · simp only [Option.map_eq_some_iff, Prod.mk.injEq] at he
        obtain ⟨⟨v, T1, H1, qs⟩, h1, rfl, rfl, rfl⟩ := he
        refine wp_to_in (evEff_nd h1) ro (evEff_sound hT hW hI h1 hp next Q ?_)
        intro c bs' Z' w' hW' hI' hv
        exact hn _ _ ⟨bs', Z', hW', hI'.put hd hv⟩
      · split at he
        · split at he
          · simp only [Option.map_eq_some_iff, Prod.mk.injEq] at he
            obtain ⟨⟨v, T1, H1, qs⟩, h1, rfl, rfl, rfl⟩ := he
            refine evHC_sound hW hI h1 hp ro next Q ?_
            intro c bs' Z' w' hW' hI' hv
            exact hn _ _ ⟨bs', Z', hW', hI'.put hd hv⟩
          · simp at he
        simp only [Option.map_eq_some_iff, Prod.mk.injEq] at he
        obtain ⟨⟨v, qs⟩, h1, rfl, rfl, rfl⟩ := he
        refine wp_to_in (evPure_nd h1) ro (evPure_sound hT hW (getV_sound hI) h1 hp next Q ?_)
        intro c w' Z' hg hv
        exact hn _ _ ⟨bs, Z', hW.grow hg, (hI.mono (fun _ _ h => h) hg.zs (fun b hb => hg.heap b (hW.zlt b hb))).put hd hv⟩
    · rename_i g hg
      split at he
      · simp at he
      · simp only [Option.map_eq_some_iff, Prod.mk.injEq] at he
        obtain ⟨⟨v', qs⟩, h1, rfl, rfl, rfl⟩ := he
        obtain ⟨v, rfl, hnd, hyy⟩ := evGuard_sound hT h1 hp
        -- what the guard's slot holds
        have hyield : ∃ j want, o.guard = some (j, want) ∧ (g = true → yielded ops a.tmps j = some want) ∧ (g = false → yielded ops a.tmps j ≠ some want) := by
          unfold guardOf at hg
          split at hg
          · simp at hg
          · rename_i j want hog
            refine ⟨j, want, hog, ?_⟩
            split at hg
            · rename_i d hdj
              have hdj' : (ops[j]?).bind (·.dst) = some d := by
                simp only [List.getElem?_map, Option.map_eq_some_iff, Array.getElem?_toList] at hdj
                obtain ⟨oj, h2, h3⟩ := hdj
                simp [h2, h3]
              have hval : ∀ {u : V}, T.lookup d = some u → d < N ∧ RV bs Z w u (a.tmps.getD d undef) := fun hl => hI.rel d _ (mem_of_lookup hl)
              have hy : ∀ c, d < N → a.tmps.getD d undef = c → yielded ops a.tmps j = (match c with | .bool b => some b | _ => none) := by
                intro c hlt hc
                have : a.tmps[d]? = some c := by
                  rw [← hc, Array.getD_eq_getD_getElem?]
                  have : d < a.tmps.size := by rw [hI.size]; exact hlt
                  simp [this]
                simp only [yielded, hdj', Option.bind_some, this]
                cases c <;> rfl
              split at hg
              · rename_i b hl
                simp at hg
                subst hg
                obtain ⟨hlt, hr⟩ := hval hl
                have := hy _ hlt hr.bool
                simp only at this
                rw [this]
                cases want <;> cases b <;> simp
              · rename_i g1 b hl
                simp at hg
                subst hg
                obtain ⟨hlt, hr⟩ := hval hl
                generalize hc : a.tmps.getD d undef = c at hr
                cases hr with | when _ _ _ h2 h3 =>
                cases g1 with
                | true =>
                  have := hy _ hlt (hc.trans (h2 rfl).bool)
                  simp only at this
                  rw [this]
                  cases want <;> cases b <;> simp
                | false =>
                  have := hy _ hlt (hc.trans (h3 rfl))
                  simp only [undef] at this
                  rw [this]
                  simp
              · simp at hg
            · simp at hg
        obtain ⟨j, want, hog, hy1, hy2⟩ := hyield
        have hwant : Region.wanted o (yielded ops a.tmps) = g := by
          simp only [Region.wanted, hog]
          cases g with
          | true => simp [hy1 rfl]
          | false => have := hy2 rfl; simp [this]
        rw [hwant]
        cases g with
        | false =>
          simp only [Bool.false_eq_true, if_false]
          exact hn _ _ ⟨bs, Z, hW, hI.put hd (.when _ _ _ (fun h => by simp at h) (fun _ => rfl))⟩
        | true =>
          simp only [if_true]
          refine wp_to_in hnd ro (hyy rfl hW (getV_sound hI) next Q ?_)
          intro c w' Z' hg' hv
          exact hn _ _ ⟨bs, Z', hW.grow hg', (hI.mono (fun _ _ h => h) hg'.zs (fun b hb => hg'.heap b (hW.zlt b hb))).put hd (.when _ _ _ (fun _ => hv) (fun h => by simp at h))⟩
  · simp at he

theorem evOps_sound (hT : Tab.ok P tt) {ro : Option Nat} {ops : Array Oper} {Q : Exit → Act → World → Prop} {Γ : Ctx} : ∀ (os : List Oper) (k : Nat) (hs : List Hint) (T : St) (H : List O) (T' : St) (H' : List O) (ps : List Prop),
    ops.toList.drop k = os → evOps P tt N (ops.toList.map (·.dst)) os hs T H = some (T', H', ps) → (∀ p ∈ ps, p) → ∀ a w, Inv N Γ T H a w → (∀ a' w', Inv N Γ T' H' a' w' → Q .normal a' w') →
    wpOpsIn (wideAt ro) 0 P ops Q (List.range' k os.length) a w := by
  intro os
  induction os with
  | nil =>
    intro k hs T H T' H' ps hd he hp a w hi hq
    simp [evOps] at he
    obtain ⟨rfl, rfl, rfl⟩ := he
    simpa [wpOpsIn] using hq a w hi
  | cons o os ih =>
    intro k hs T H T' H' ps hd he hp a w hi hq
    have hk : ops[k]? = some o := by
      have := congrArg (·[0]?) hd
      simpa using this
    have hd' : ops.toList.drop (k + 1) = os := by
      have := congrArg List.tail hd
      simpa using this
    unfold evOps at he
    split at he
    · simp at he
    · rename_i T1 H1 p1 h1
      split at he
      · simp at he
      · rename_i T2 H2 qs h2
        simp at he
        obtain ⟨rfl, rfl, rfl⟩ := he
        rw [List.length_cons, List.range'_succ]
        simp only [wpOpsIn, hk]
        have := evOne_sound (P := P) (N := N) hT (ops := ops) (ro := ro) (Q := Q) (next := wpOpsIn (wideAt ro) 0 P ops Q (List.range' (k + 1) os.length)) h1 (fun p hp' => hp p (List.mem_append_left _ hp')) hi
          (fun a' w' hi' => ih (k + 1) hs.tail T1 H1 T2 H2 qs hd' h2 (fun p hp' => hp p (List.mem_append_right _ hp')) a' w' hi' hq)
        split at this
        · rename_i hw; rw [if_pos hw]; exact this
        · rename_i hw; rw [if_neg hw]; exact ⟨fun _ _ => trivial, this⟩

/-- The rule over abstract states. -/
def awp (P : Program) (rd : Bool) (N fl : Nat) (c : Code) (Q : Exit → St → List O → Prop) (T : St) (H : List O) : Prop :=
  ∀ ro : Option Nat, ro.isSome = rd → ∀ Γ a w, Γ.n0 ≤ fl → Inv N Γ T H a w → c.wpIn (wideAt ro) 0 P (fun e a' w' => ∃ T' H', Q e T' H' ∧ Inv N Γ T' H' a' w') a w

def thenQ (next : St → List O → Prop) (Q : Exit → St → List O → Prop) : Exit → St → List O → Prop
  | .normal, T, H => next T H
  | e, T, H => Q e T H

variable {Q : Exit → St → List O → Prop}

theorem awp_seq {x y : Code} (h : awp P rd N fl x (thenQ (awp P rd N fl y Q) Q) T H) : awp P rd N fl (.seq x y) Q T H := by
  intro ro hro Γ a w hm hi
  refine wpIn_seq (wpIn_mono (h ro hro Γ a w hm hi) ?_)
  rintro e a' w' ⟨T', H', hq, hi'⟩
  cases e with
  | normal => exact hq ro hro Γ a' w' hm hi'
  | _ => exact ⟨T', H', hq, hi'⟩

theorem awp_region (hT : Tab.ok P tt) {id : Nat} {ops : Array Oper} {hs : List Hint} {ks : List Nat} (he : evReg P tt N ops hs ks T H = some (T', H', ps)) (hp : AllP ps) (hq : Q .normal T' H') :
    awp P rd N fl (.region id ops false) Q T H := by
  intro ro hro Γ a w hm hi
  unfold evReg at he
  simp only [Option.map_eq_some_iff, Prod.mk.injEq] at he
  obtain ⟨⟨T1, H1, qs⟩, h1, rfl, rfl, rfl⟩ := he
  refine wpIn_region ?_
  rw [List.range_eq_range', show ops.size = ops.toList.length by simp]
  refine evOps_sound hT ops.toList 0 hs T H T1 H1 qs rfl h1 hp.mem a w hi ?_
  intro a' w' hi'
  exact ⟨_, _, hq, hi'.keep ks⟩

theorem awp_sreg (hT : Tab.ok P tt) {id : Nat} {ops : Array Oper} {y : Code} {hs : List Hint} {ks : List Nat} (T' : St) (H' : List O) (ps : List Prop) (he : evReg P tt N ops hs ks T H = some (T', H', ps)) (hp : AllP ps)
    (hq : awp P rd N fl y Q T' H') : awp P rd N fl (.seq (.region id ops false) y) Q T H := awp_seq (awp_region hT he hp hq)

theorem awp_skip (h : Q .normal T H) : awp P rd N fl .skip Q T H := fun ro hro Γ a w hm hi => wpIn_skip ⟨T, H, h, hi⟩
theorem awp_exit {id : Nat} (h : Q (.exit id) T H) : awp P rd N fl (.exit id) Q T H := fun ro hro Γ a w hm hi => wpIn_exit ⟨T, H, h, hi⟩
theorem awp_ret (h : Q .ret T H) : awp P rd N fl .ret Q T H := fun ro hro Γ a w hm hi => wpIn_ret ⟨T, H, h, hi⟩
theorem awp_label {l : Nat} (h : Q .normal T H) : awp P rd N fl (.label l) Q T H := fun ro hro Γ a w hm hi => wpIn_label ⟨T, H, h, hi⟩

theorem awp_cond {c : Operand} {x y : Code} {b : Bool} (hc : getV T c = vb b) (h1 : b = true → awp P rd N fl x Q T H) (h2 : b = false → awp P rd N fl y Q T H) : awp P rd N fl (.cond c x y) Q T H := by
  intro ro hro Γ a w hm hi
  obtain ⟨bs, Z, hW, hI⟩ := hi
  have := getV_sound hI c
  rw [hc] at this
  exact wpIn_cond_split this.bool (fun h => h1 h ro hro Γ a w hm ⟨bs, Z, hW, hI⟩) (fun h => h2 h ro hro Γ a w hm ⟨bs, Z, hW, hI⟩)

def blockQ (id : Nat) (Q : Exit → St → List O → Prop) : Exit → St → List O → Prop
  | .exit id', T, H => if id' = id then Q .normal T H else Q (.exit id') T H
  | e, T, H => Q e T H

theorem awp_block {id : Nat} {c : Code} (h : awp P rd N fl c (blockQ id Q) T H) : awp P rd N fl (.block id c) Q T H := by
  intro ro hro Γ a w hm hi
  refine wpIn_block (wpIn_mono (h ro hro Γ a w hm hi) ?_)
  rintro e a' w' ⟨T', H', hq, hi'⟩
  cases e with
  | exit id' =>
    simp only [blockQ] at hq
    simp only [Exit.inBlock]
    split at hq
    · rename_i e; rw [if_pos e]; exact ⟨T', H', hq, hi'⟩
    · rename_i e; rw [if_neg e]; exact ⟨T', H', hq, hi'⟩
  | _ => exact ⟨T', H', hq, hi'⟩

def awpN (P : Program) (rd : Bool) (N fl : Nat) (c : Code) (Q : Exit → St → List O → Prop) (n : Nat) (T : St) (H : List O) : Prop :=
  ∀ ro : Option Nat, ro.isSome = rd → ∀ Γ a w, Γ.n0 ≤ fl → Inv N Γ T H a w → Code.roundsIn (wideAt ro) 0 P c (fun e a' w' => ∃ T' H', Q e T' H' ∧ Inv N Γ T' H' a' w') n a w

theorem awpN_succ {c : Code} {n : Nat} (h : awp P rd N fl c (thenQ (awpN P rd N fl c Q n) Q) T H) : awpN P rd N fl c Q (n + 1) T H := by
  intro ro hro Γ a w hm hi
  rw [roundsIn_succ]
  refine wpIn_mono (h ro hro Γ a w hm hi) ?_
  rintro e a' w' ⟨T', H', hq, hi'⟩
  cases e with
  | normal => exact hq ro hro Γ a' w' hm hi'
  | _ => exact ⟨T', H', hq, hi'⟩

theorem awp_loop {c : Code} {n : Nat} (h : awpN P rd N fl c Q n T H) : awp P rd N fl (.loop c) Q T H := fun ro hro Γ a w hm hi => wpIn_loop_rounds n (h ro hro Γ a w hm hi)

theorem awp_mono {c : Code} {Q' : Exit → St → List O → Prop} (h : awp P rd N fl c Q T H) (hq : ∀ e T H, Q e T H → Q' e T H) : awp P rd N fl c Q' T H := by
  intro ro hro Γ a w hm hi
  refine wpIn_mono (h ro hro Γ a w hm hi) ?_
  rintro e a' w' ⟨T', H', h1, h2⟩
  exact ⟨T', H', hq _ _ _ h1, h2⟩
end region
end Go.Sx
