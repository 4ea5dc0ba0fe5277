/- A range over a function: its rounds, and the statement. -/
import Derived.Test.YtadejgckgnbaoaaSxFun
import Derived.RangeFuncIn
namespace Go.Sx
open Go
set_option linter.unusedSimpArgs false
set_option linter.unusedVariables false

/-- The parameters of a round are written. -/
def putPs : List Tmp → List V → St → St
  | p :: ps, v :: vs, T => putPs ps vs (putT (some p) v T)
  | _, _, T => T

/-- By which jump a round has left. -/
def jumpOf : Exit → Option (Option Code)
  | .normal => some none
  | .ret => some (some .ret)
  | .exit id => some (some (.exit id))
  | _ => none

section
variable {P : Program} {tt : Tab} {N fl : Nat} {Γ : Ctx} {bs : Bs} {Z : Nat → Prop} {w : World} {H H' : List O} {T T' : St}

theorem putPs_rel : ∀ (ps : List Tmp) (vs : List V) (cs : List Value) (T : St) (tmps : Array Value), (∀ p ∈ ps, p < N) → vs.length = ps.length → cs.length = ps.length →
    (∀ (j : Nat) x c, vs[j]? = some x → cs[j]? = some c → RV bs Z w x c) → tmps.size = N → (∀ i x, (i, x) ∈ T → i < N ∧ RV bs Z w x (tmps.getD i undef)) →
    ((ps.zip cs).foldl (fun (tmps : Array Value) (q : Tmp × Value) => tmps.setIfInBounds q.1 q.2) tmps).size = N ∧
      ∀ i x, (i, x) ∈ putPs ps vs T → i < N ∧ RV bs Z w x (((ps.zip cs).foldl (fun (tmps : Array Value) (q : Tmp × Value) => tmps.setIfInBounds q.1 q.2) tmps).getD i undef) := by
  intro ps
  induction ps with
  | nil => intro vs cs T tmps _ _ _ _ hs ht; exact ⟨hs, by simpa [putPs] using ht⟩
  | cons p ps ih =>
    intro vs cs T tmps hp hv hc hr hs ht
    cases vs with
    | nil => simp at hv
    | cons v vs =>
      cases cs with
      | nil => simp at hc
      | cons c cs =>
        simp only [List.zip_cons_cons, List.foldl_cons, putPs]
        refine ih vs cs _ _ (fun q hq => hp q (List.mem_cons_of_mem _ hq)) (by simpa using hv) (by simpa using hc) (fun j x d hx hd => hr (j + 1) x d (by simpa using hx) (by simpa using hd)) (by simpa using hs) ?_
        intro i x hx
        have hpN : p < N := hp p (List.mem_cons_self ..)
        simp only [putT, List.mem_cons, Prod.mk.injEq, List.mem_filter] at hx
        rcases hx with ⟨rfl, rfl⟩ | ⟨hx, hne⟩
        · refine ⟨hpN, ?_⟩
          rw [Array.getD_eq_getD_getElem?, Array.getElem?_setIfInBounds_self_of_lt (by rw [hs]; exact hpN)]
          exact hr 0 _ _ rfl rfl
        · have := ht i x hx
          refine ⟨this.1, ?_⟩
          simp at hne
          rw [Array.getD_eq_getD_getElem?, Array.getElem?_setIfInBounds_ne (by omega), ← Array.getD_eq_getD_getElem?]
          exact this.2

theorem zip_foldl (ps : Array Tmp) (cs : Array Value) (t : Array Value) : (ps.zip cs).foldl (fun tmps (p, a) => tmps.setIfInBounds p a) t = (ps.toList.zip cs.toList).foldl (fun (tmps : Array Value) (q : Tmp × Value) => tmps.setIfInBounds q.1 q.2) t := by
  rw [← Array.foldl_toList]
  simp

/-- One more object that keeps its place. -/
def Ctx.pinAt (Γ : Ctx) (k : Nat) (q : Option (Nat × Nat)) : Ctx :=
  { Γ with
    pin := fun i => if i = k then some q else Γ.pin i
    n0 := max Γ.n0 (k + 1)
    pinlt := by
      intro i p h
      split at h
      · subst_vars; omega
      · have := Γ.pinlt i p h; omega }

theorem InvW.pinAt (hW : InvW Γ H bs Z w) {k : Nat} {q : Option (Nat × Nat)} (hb : bs[k]? = some q) {o : O} (ho : H[k]? = some o) (hd : o.isData = false) : InvW (Γ.pinAt k q) H bs Z w :=
  { hW with
    pin := by
      intro i p h
      simp only [Ctx.pinAt] at h
      split at h
      · subst_vars; simp at h; subst h; exact ⟨hb, o, ho, hd⟩
      · exact hW.pin i p h }
theorem InvW.unpin {k : Nat} {q : Option (Nat × Nat)} (hW : InvW (Γ.pinAt k q) H bs Z w) (hk : ∀ p, Γ.pin k = some p → p = q) : InvW Γ H bs Z w :=
  { hW with
    pin := by
      intro i p h
      refine hW.pin i p ?_
      simp only [Ctx.pinAt]
      split
      · subst_vars; rw [hk p h]
      · exact h }

theorem putObj_heap {w : World} {r b : Nat} {o : Obj} (h : b ≠ r) : (w.putObj r o).heap[b]? = w.heap[b]? := World.putObj_heap_other h

/-- The record of a loop is turned. -/
theorem InvW.setLoop (hW : InvW Γ H bs Z w) {k b q : Nat} (hb : bs[k]? = some (some (b, q))) {st st' : Option (Option Code)} {ps : List Tmp} {asg bd : Code} {M : Nat} {Tl : List (Nat × V)} {r r' : Loop}
    (ho : H[k]? = some (.loop st ps asg bd M Tl)) (hh : w.heap[b]? = some (.loop r)) (h1 : r'.params = r.params) (h2 : r'.assign = r.assign) (h3 : r'.body = r.body) (h4 : r'.tmps = r.tmps) (h5 : LoopOk st' r') :
    InvW Γ (H.set k (.loop st' ps asg bd M Tl)) bs Z (w.putObj b (.loop r')) := by
  have hlt : b < w.heap.size := (Array.getElem?_eq_some_iff.1 hh).1
  obtain ⟨r0, g1, g2, g3, g4, g5, g6, g7⟩ := hW.objs k _ _ ho hb
  rw [hh] at g1; simp at g1; subst g1
  have hz : ∀ b', Z b' → (w.putObj b (.loop r')).heap[b']? = w.heap[b']? := fun b' hb' => putObj_heap (fun e => by subst e; exact hW.disj k b' q hb hb')
  refine hW.write hb (fun b' hb' => putObj_heap hb') World.putObj_size rfl rfl rfl ⟨r', World.putObj_heap_same hlt, h5, h1 ▸ g3, h2 ▸ g4, h3 ▸ g5, h4 ▸ g6, fun i x hx => ?_⟩ (fun _ _ _ => rfl)
  rw [h4]
  exact ⟨(g7 i x hx).1, (g7 i x hx).2.mono (fun _ _ h => h) (fun _ h => h) hz⟩

theorem InvT.putObj {a : Act} (hW : InvW Γ H bs Z w) (hI : InvT N Γ T bs Z a w) {k b q : Nat} (hb : bs[k]? = some (some (b, q))) (o : Obj) : InvT N Γ T bs Z a (w.putObj b o) :=
  hI.mono (fun _ _ h => h) (fun _ h => h) (fun b' hb' => putObj_heap (fun e => by subst e; exact hW.disj k b' q hb hb'))

theorem InvT.ctx {a : Act} {Γ' : Ctx} (hI : InvT N Γ T bs Z a w) (h : Γ'.w0 = Γ.w0) : InvT N Γ' T bs Z a w :=
  ⟨hI.size, by obtain ⟨l, h1, h2, h3⟩ := hI.defers; exact ⟨l, h1, h2, fun d hd => ⟨by rw [h]; exact (h3 d hd).1, (h3 d hd).2⟩⟩, hI.rel⟩

/-- A round's contract, out of its code. -/
theorem YCall.of_awp {k : Nat} {ps : List Tmp} {asg bd : Code} {Tl : List (Nat × V)} {args : List V} {r : V} (hk : H[k]? = some (.loop (some none) ps asg bd N Tl)) (hps : (ps.all fun p => Nat.blt p N) = true) (hl : args.length = ps.length)
    (h : awp P true N H.length asg (fun e T1 H1 => e = .normal ∧ H1[k]? = some (.loop (some none) ps asg bd N Tl) ∧
      awp P true N H.length bd (fun e2 T2 H2 => ∃ j, jumpOf e2 = some j ∧ r = vb j.isNone ∧ H2[k]? = some (.loop none ps asg bd N Tl) ∧ H2.set k (.loop (some j) ps asg bd N Tl) = H') T1 (H1.set k (.loop none ps asg bd N Tl))) (putPs ps args Tl) H) :
    YCall P (.yld k :: args) H r H' := by
  intro Γ bs Z w cs hW hn0 hcs hargs
  have hklt : k < H.length := (List.getElem?_eq_some_iff.1 hk).1
  obtain ⟨c0, hc0⟩ : ∃ c, cs[0]? = some c := ⟨cs[0]'(by rw [hcs]; simp), by simp [hcs]⟩
  have hy := hargs 0 _ _ rfl hc0
  cases hy with | yld _ b q hb =>
  obtain ⟨r0, g1, g2, g3, g4, g5, g6, g7⟩ := hW.objs k _ _ hk hb
  have hsz : cs.size = r0.params.size + 1 := by rw [hcs, g3]; simp [hl]
  refine ⟨b, r0, hc0, g1, hsz, roundIn_of_wpIn (F := Fence.wide) trivial ?_⟩
  let Γ1 := Γ.pinAt k (some (b, q))
  have hW1 : InvW Γ1 H bs Z w := hW.pinAt hb hk rfl
  have hback : ∀ p, Γ.pin k = some p → p = some (b, q) := fun p hp => by
    have := (hW.pin k p hp).1
    rw [hb] at this; simp at this; exact this.symm
  have hn1 : Γ1.n0 ≤ H.length := by simp only [Γ1, Ctx.pinAt]; omega
  have hrest : ∀ (j : Nat) x c, args[j]? = some x → (cs.extract 1 cs.size).toList[j]? = some c → RV bs Z w x c := by
    intro j x c hx hc
    refine hargs (j + 1) x c (by simpa using hx) ?_
    have hc' : (cs.extract 1 cs.size)[j]? = some c := by rw [← Array.getElem?_toList]; exact hc
    rw [Array.getElem?_extract] at hc'
    split at hc'
    · rw [← hc']; congr 1; omega
    · simp at hc'
  obtain ⟨hr1, hr2⟩ := putPs_rel (N := N) ps args (cs.extract 1 cs.size).toList Tl r0.tmps (fun p hp => by simpa using List.all_eq_true.1 hps p hp) hl (by simp [hsz, g3]) hrest g6 g7
  have hI1 : InvT N Γ1 (putPs ps args Tl) bs Z { tmps := (r0.params.zip (cs.extract 1 cs.size)).foldl (fun tmps (t, a) => tmps.setIfInBounds t a) r0.tmps, defers := [] } w := by
    rw [zip_foldl, g3]
    exact ⟨hr1, .nil, hr2⟩
  rw [g4, g5]
  refine wpIn_mono (h (some b) rfl Γ1 _ w hn1 ⟨bs, Z, hW1, hI1⟩) ?_
  rintro e a1 w1 ⟨T1, H1, ⟨rfl, hk1, hbody⟩, bs1, Z1, hW2, hI2⟩
  have hb1 : bs1[k]? = some (some (b, q)) := (hW2.pin k (some (b, q)) (by simp [Γ1, Ctx.pinAt])).1
  obtain ⟨r1, e1, e2, e3, e4, e5, e6, e7⟩ := hW2.objs k _ _ hk1 hb1
  have hready : r1.state = .ready := e2.2
  refine ⟨_, run_beginRound e1 hready, ?_⟩
  have hW3 := hW2.setLoop hb1 hk1 e1 (r' := { r1 with state := .busy }) rfl rfl rfl rfl (st' := none) rfl
  have hI3 := InvT.putObj hW2 hI2 hb1 (.loop { r1 with state := .busy })
  refine wpIn_mono (hbody (some b) rfl Γ1 a1 _ hn1 ⟨bs1, Z1, hW3, hI3⟩) ?_
  rintro e2' a2 w2 ⟨T2, H2, ⟨j, hj, hr, hk2, hH'⟩, bs2, Z2, hW4, hI4⟩
  have hb2 : bs2[k]? = some (some (b, q)) := (hW4.pin k (some (b, q)) (by simp [Γ1, Ctx.pinAt])).1
  obtain ⟨r2, f1, f2, f3, f4, f5, f6, f7⟩ := hW4.objs k _ _ hk2 hb2
  have hend : ∃ v w', (Instr.endRound b j).run P w2 = .ok v w' ∧ ∃ c bs' Z', Ending.returned v = .returned c ∧ InvW Γ H' bs' Z' w' ∧ RV bs' Z' w' r c := by
    refine ⟨_, _, run_endRound j f1, _, bs2, Z2, rfl, ?_, ?_⟩
    · have := hW4.setLoop hb2 hk2 f1 (r' := { r2 with state := if j.isNone then .ready else .done, pending := j }) rfl rfl rfl rfl (st' := some j) ⟨rfl, rfl⟩
      rw [hH'] at this
      exact this.unpin hback
    · rw [hr]; exact RV.mkb _
  cases e2' with
  | normal => simp only [jumpOf, Option.some.injEq] at hj; subst hj; exact hend
  | ret => simp only [jumpOf, Option.some.injEq] at hj; subst hj; exact hend
  | exit id => simp only [jumpOf, Option.some.injEq] at hj; subst hj; exact hend
  | _ => simp [jumpOf] at hj

/-- The record of a loop that is over is spoken of no more. -/
theorem InvW.dropAt (hW : InvW Γ H bs Z w) (k : Nat) (hk : Γ.n0 ≤ k) : InvW Γ ((onlyH (· != k) H).set k (.data [])) (bs.set k none) Z w := by
  have hkeep : ∀ (i : Nat) (o : Option (Nat × Nat)), (i != k) = true → bs[i]? = some o → (bs.set k none)[i]? = some o := fun i o hi hb => bs_set_keep i o hi hb
  have hset : ∀ (i : Nat) (p : Nat × Nat), (bs.set k none)[i]? = some (some p) → i ≠ k ∧ bs[i]? = some (some p) := by
    intro i p h
    rw [List.getElem?_set] at h
    split at h
    · rename_i e; subst e
      split at h <;> simp at h
    · rename_i e; exact ⟨fun e' => e e'.symm, h⟩
  constructor
  · simp [onlyH, hW.lenH]
  · intro i o p ho hb
    rw [List.getElem?_set] at ho hb
    split at ho
    · rename_i e; subst e
      rw [if_pos rfl] at hb
      split at ho <;> simp at ho
      subst ho
      split at hb <;> simp at hb
      subst hb; rfl
    · rename_i e
      rw [if_neg e] at hb
      simp only [onlyH, List.getElem?_map, Option.map_eq_some_iff] at ho
      obtain ⟨o', ho', rfl⟩ := ho
      exact (hW.objs i o' p ho' hb).only _ hkeep
  · intro i j b k k' hi hj; exact hW.nodup i j b k k' (hset _ _ hi).2 (hset _ _ hj).2
  · intro i b k hi; exact hW.disj i b k (hset _ _ hi).2
  · intro i b k hi; exact hW.lt i b k (hset _ _ hi).2
  · exact hW.zlt
  · exact hW.z0
  · intro i b k hi; exact hW.fresh i b k (hset _ _ hi).2
  · exact hW.zfresh
  · exact hW.size
  · exact hW.frame
  · exact hW.os
  · exact hW.tape
  · exact hW.output
  · intro i p hp
    obtain ⟨h1, o, h2, h3⟩ := hW.pin i p hp
    have hne : k ≠ i := fun e => by have := Γ.pinlt i p hp; omega
    exact ⟨by rw [List.getElem?_set, if_neg hne]; exact h1, o.only (· != k), by rw [List.getElem?_set, if_neg hne]; simp only [onlyH, List.getElem?_map, h2, Option.map_some], by rw [only_isData]; exact h3⟩

def evRange (P : Program) (N : Nat) (ps : List Tmp) (asg bd : Code) (ks : List Nat) (ids : List (Nat × Bool)) (r : V) (H' : List O) (T : St) (H : List O) (g : Operand) : Option (Option Code × St × List O × List Prop) :=
  match evHCall P ids r H' T (H ++ [O.loop (some none) ps asg bd N (keepT ks T)]) (getV T g) [V.yld H.length] with
  | some (_, T2, H2, pr) =>
    match getV T g, H2[H.length]?, inIds (ids.map (·.1)) 0 H.length with
    | .fn (.func _) _ _, some (.loop (some j) _ _ _ _ _), some _ => some (j, onlyT (· != H.length) T2, (onlyH (· != H.length) H2).set H.length (.data []), pr)
    | _, _, _ => none
  | none => none

/-- The statement. -/
theorem awp_range {Q : Exit → St → List O → Prop} {g : Operand} {ps : Array Tmp} {asg bd : Code} {ks : List Nat} {ids : List (Nat × Bool)} {r : V} {Hc : List O} (j : Option Code) (T' : St) (H' : List O) (ps' : List Prop) (hfl : Nat.ble fl H.length = true)
    (he : evRange P N ps.toList asg bd ks ids r Hc T H g = some (j, T', H', ps')) (hp : AllP ps') (h1 : j = none → Q .normal T' H') (h2 : ∀ c, j = some c → awp P false N fl c Q T' H') : awp P false N fl (.rangeFunc g ps asg bd) Q T H := by
  intro ro hro Γ a w hm hi
  have hro' : ro = none := by cases ro <;> simp_all
  subst hro'
  obtain ⟨bs, Z, hW, hI⟩ := hi
  unfold evRange at he
  split at he
  · rename_i r1 T2 H2 pr hev
    split at he
    · rename_i f first cap j' ps2 as2 bd2 N2 Tl2 jj hg hk hin
      simp only [Option.some.injEq, Prod.mk.injEq] at he
      obtain ⟨rfl, rfl, rfl, rfl⟩ := he
      unfold evHCall at hev
      split at hev
      · rename_i hnd
        split at hev
        · rename_i Hs olds hs hol
          rw [hg] at hev
          simp only [Option.some.injEq, Prod.mk.injEq] at hev
          obtain ⟨rfl, rfl, rfl, rfl⟩ := hev
          have hcall : HCall P f ((first ++ [V.yld H.length] ++ cap).map (V.re (inIds (ids.map (·.1)) 0))) Hs r Hc := hp.mem _ (List.mem_singleton.2 rfl)
          have hx := getV_sound hI g
          rw [hg] at hx
          generalize hfv : a.eval g = fv at hx
          cases hx with
          | fn _ _ _ fs cs gg k hl hl' hf hk0 hr hr' =>
            -- the record and the mark
            let w1 := w.alloc (.deferred (some []))
            let Z1 : Nat → Prop := fun b => Z b ∨ b = w.heap.size
            have hold1 : ∀ b, b < w.heap.size → w1.heap[b]? = w.heap[b]? := fun b hb => (Grow.alloc Z w _).heap b hb
            have hWa : InvW Γ H bs Z1 w1 := by
              constructor
              · exact hW.lenH
              · intro i o q ho hq
                exact (hW.objs i o q ho hq).mono (fun _ _ h => h) (fun _ h => .inl h) (fun b hb => hold1 b (hW.zlt b hb)) (fun b k e => hold1 b (hW.lt i b k (e ▸ hq)))
              · exact hW.nodup
              · intro i b k h hz
                rcases hz with hz | hz
                · exact hW.disj i b k h hz
                · have := hW.lt i b k h; omega
              · intro i b k h; have := hW.lt i b k h; simp [w1]; omega
              · intro b h
                rcases h with h | h
                · have := hW.zlt b h; simp [w1]; omega
                · simp [w1]; omega
              · exact fun b h => .inl (hW.z0 b h)
              · exact hW.fresh
              · intro b h
                rcases h with h | h
                · exact hW.zfresh b h
                · have := hW.size; right; left; omega
              · have := hW.size; simp [w1]; omega
              · intro b hb hB; rw [hold1 b (by have := hW.size; omega)]; exact hW.frame b hb hB
              · exact hW.os
              · exact hW.tape
              · exact hW.output
              · exact hW.pin
            obtain ⟨l, d1, d2, d3⟩ := hI.defers
            have hIa : InvT N Γ T bs Z1 { a with defers := [markOf w.heap.size] ++ a.defers } w1 := by
              refine ⟨hI.size, ⟨w.heap.size :: l, by simp [d1], ?_, ?_⟩, fun i x hx => ⟨(hI.rel i x hx).1, (hI.rel i x hx).2.mono (fun _ _ h => h) (fun _ h => .inl h) (fun b hb => hold1 b (hW.zlt b hb))⟩⟩
              · refine List.nodup_cons.2 ⟨fun hmem => ?_, d2⟩
                have := hW.zlt _ (d3 _ hmem).2.1
                omega
              · intro d hd
                rcases List.mem_cons.1 hd with rfl | hd
                · exact ⟨hW.size, .inr rfl, World.alloc_heap_new w _⟩
                · exact ⟨(d3 d hd).1, .inl (d3 d hd).2.1, (hold1 d (hW.zlt _ (d3 d hd).2.1)).trans (d3 d hd).2.2⟩
            refine wpIn_rangeFunc fun fn _ => ?_
            let rec0 : Loop := { state := .ready, pending := none, fn, tmps := a.tmps, params := ps, assign := asg, body := bd, defers := w.heap.size }
            let w2 := w1.alloc (.loop rec0)
            have hsz1 : w1.heap.size = w.heap.size + 1 := by simp [w1]
            have hold2 : ∀ b, b < w1.heap.size → w2.heap[b]? = w1.heap[b]? := fun b hb => (Grow.alloc Z w1 _).heap b hb
            have hWb : InvW Γ (H ++ [.loop (some none) ps.toList asg bd N (keepT ks T)]) (bs ++ [some (w1.heap.size, 0)]) Z1 w2 := by
              refine hWa.push (.loop rec0) _ 0 ⟨rec0, World.alloc_heap_new w1 _, ⟨rfl, rfl⟩, rfl, rfl, rfl, hI.size, fun i x hx => ?_⟩
              simp only [keepT, List.mem_filterMap, Option.map_eq_some_iff, Prod.mk.injEq] at hx
              obtain ⟨k', _, v, hlk, rfl, rfl⟩ := hx
              have := hIa.rel k' v (mem_of_lookup hlk)
              exact ⟨this.1, this.2.mono bs_push (fun _ h => h) (fun b hb => hold2 b (hWa.zlt b hb))⟩
            have hIb : InvT N Γ T (bs ++ [some (w1.heap.size, 0)]) Z1 { a with defers := [markOf w.heap.size] ++ a.defers } w2 :=
              hIa.mono bs_push (fun _ h => h) (fun b hb => hold2 b (hWa.zlt b hb))
            have hlast : (bs ++ [some (w1.heap.size, 0)])[H.length]? = some (some (w1.heap.size, 0)) := bs_last hWa _
            refine ⟨w.heap.size + 1, [markOf w.heap.size], w2, { target := .fn (.func f) cs, args := fs ++ #[.func (.yield (w.heap.size + 1)) #[] #[]] }, w2, f, fs ++ #[.func (.yield (w.heap.size + 1)) #[] #[]] ++ cs, w2, ?_, ?_, fun _ _ => trivial, ?_, fun h => by simp [wideAt, Fence.wide] at h, ?_⟩
            · exact run_enterLoop_outer fn a.tmps ps asg bd
            · have hfv' : Act.eval a g = .func (.func f) fs cs := hfv
              simp only [resolve, rangeCall, hfv', Deferred.ofValue]
              simp [Act.eval]
            · simp [invoke, run_callFunc hcall.ok]
            · refine (callsIn_wide (n := 0)).2 ?_
              refine Calls.mono (HRun.use (K := fun cs w R => Calls P f cs w R) Calls.mono hcall.run hWb hnd hs hol (gs := first ++ [V.yld H.length] ++ cap) ?_ rfl ?_) ?_
              · simp only [Array.size_append, List.length_append, List.size_toArray, hl, hl']
                rfl
              · intro i y d hy hd
                simp only [List.append_assoc, List.getElem?_append] at hy
                rw [Array.getElem?_append, Array.getElem?_append] at hd
                simp only [Array.size_append] at hd
                have hmono : ∀ {x : V} {c : Value}, RV bs Z w x c → RV (bs ++ [some (w1.heap.size, 0)]) Z1 w2 x c := fun h =>
                  (h.mono (fun _ _ h => h) (fun _ h => .inl h) (fun b hb => hold1 b (hW.zlt b hb))).mono bs_push (fun _ h => h) (fun b hb => hold2 b (hWa.zlt b hb))
                split at hy
                · rename_i h3
                  rw [if_pos (by simp; omega), if_pos (by omega), hf i (by omega)] at hd
                  simp at hd; subst hd
                  exact hmono (hr i y hy)
                · rename_i h3
                  split at hy
                  · rename_i h4
                    have h4' : i - first.length = 0 := by simp at h4; omega
                    rw [if_pos (by simp; omega), if_neg (by omega), hl, h4'] at hd
                    rw [h4'] at hy
                    simp at hy hd
                    subst hy; subst hd
                    rw [← hsz1]
                    exact .yld _ _ 0 hlast
                  · rename_i h4
                    have h4' : 1 ≤ i - first.length := by simp at h4; omega
                    rw [if_neg (by simp; omega)] at hd
                    simp at hy
                    have e : i - (fs.size + 1) = i - first.length - 1 := by omega
                    simp only [List.size_toArray, List.length_cons, List.length_nil, Nat.zero_add] at hd
                    rw [e] at hd
                    have hlt := (List.getElem?_eq_some_iff.1 hy).1
                    rw [hk0 _ (by omega)] at hd
                    simp at hd; subst hd
                    exact hmono (hr' _ _ hy)
              · rintro e w3 ⟨c, bs2, Z', rfl, q1, q2, q3, q4, q5⟩
                -- the record keeps its place
                have hstay : stayIds (ids.map (·.1)) Hs H.length = true := by
                  obtain ⟨_, hin'⟩ := inIds_some _ _ _ _ hin
                  simp only [Nat.sub_zero] at hin'
                  obtain ⟨hsl, hsg⟩ := subH_get hs
                  rw [List.getElem?_map, Option.map_eq_some_iff] at hin'
                  obtain ⟨p, hp1, hp2⟩ := hin'
                  obtain ⟨o, ho1, ho2, ho3⟩ := hsg jj p hp1
                  rw [hp2] at ho1
                  have hol' : (H ++ [O.loop (some none) ps.toList asg bd N (keepT ks T)])[H.length]? = some (.loop (some none) ps.toList asg bd N (keepT ks T)) := by simp
                  rw [hol'] at ho1
                  simp at ho1; subst ho1
                  have hsl' : (ids.map (·.1))[jj]? = some H.length := by rw [List.getElem?_map, hp1]; simp [hp2]
                  rw [stayIds_get _ Hs jj H.length _ hnd hsl' ho3]
                  rw [fixAt_isData (by rw [re_isData]; rfl)]
                  rfl
                have hb3 := q3 H.length _ hstay hlast
                obtain ⟨r3, k1, k2, k3, k4, k5, k6, k7⟩ := q1.objs H.length _ _ hk hb3
                have hnb : r3.state ≠ .busy := by rw [k2.2]; split <;> simp
                rw [← hsz1]
                refine ⟨r3.pending, _, run_endLoop k1 hnb, ?_⟩
                have hpend : r3.pending = j' := k2.1
                have hblk : ∀ b, b ≠ w1.heap.size → (w3.putObj w1.heap.size (.loop { r3 with state := .exhausted })).heap[b]? = w3.heap[b]? := fun b hb => World.putObj_heap_other hb
                have hfin : Inv N Γ (onlyT (· != H.length) (onlyT (stayIds (ids.map (·.1)) Hs) T)) ((onlyH (· != H.length) (mergeH (ids.map (·.1)) olds (stayIds (ids.map (·.1)) Hs) 0 (H ++ [.loop (some none) ps.toList asg bd N (keepT ks T)]) ++ (Hc.drop ids.length).map (O.re (outIds (ids.map (·.1)) (H ++ [O.loop (some none) ps.toList asg bd N (keepT ks T)]).length)))).set H.length (.data []))
                    { a with defers := [markOf w.heap.size] ++ a.defers } (w3.putObj w1.heap.size (.loop { r3 with state := .exhausted })) := by
                  have hWc := q1.dropAt H.length (Nat.le_trans hm (Nat.le_of_ble_eq_true hfl))
                  have hIc : InvT N Γ (onlyT (· != H.length) (onlyT (stayIds (ids.map (·.1)) Hs) T)) (bs2.set H.length none) Z' { a with defers := [markOf w.heap.size] ++ a.defers } w3 :=
                    (hc_next hIb q3 q4 q5).only _ (fun i o hi hb => bs_set_keep i o hi hb)
                  have hne : ∀ (i b k : Nat), (bs2.set H.length none)[i]? = some (some (b, k)) → b ≠ w1.heap.size := by
                    intro i b k h e
                    subst e
                    rw [List.getElem?_set] at h
                    split at h
                    · split at h <;> simp at h
                    · rename_i hne
                      exact hne (q1.nodup _ _ _ _ _ hb3 h)
                  have hzne : ∀ b, Z' b → b ≠ w1.heap.size := fun b hb e => q1.disj _ _ _ hb3 (e ▸ hb)
                  refine ⟨bs2.set H.length none, Z', ?_, hIc.mono (fun _ _ h => h) (fun _ h => h) (fun b hb => hblk b (hzne b hb))⟩
                  constructor
                  · exact hWc.lenH
                  · intro i o q ho hq
                    exact (hWc.objs i o q ho hq).mono (fun _ _ h => h) (fun _ h => h) (fun b hb => hblk b (hzne b hb)) (fun b k e => hblk b (hne i b k (e ▸ hq)))
                  · exact hWc.nodup
                  · exact hWc.disj
                  · intro i b k h; rw [World.putObj_size]; exact hWc.lt i b k h
                  · intro b h; rw [World.putObj_size]; exact hWc.zlt b h
                  · exact hWc.z0
                  · exact hWc.fresh
                  · exact hWc.zfresh
                  · rw [World.putObj_size]; exact hWc.size
                  · intro b hb hB
                    rw [hblk b (by have := hW.size; omega)]
                    exact hWc.frame b hb hB
                  · exact hWc.os
                  · exact hWc.tape
                  · exact hWc.output
                  · exact hWc.pin
                clear hstay
                have hfin' := hfin
                generalize (w3.putObj w1.heap.size (.loop { r3 with state := .exhausted })) = w4 at hfin' ⊢
                rw [hpend]
                cases j' with
                | none => exact ⟨_, _, h1 rfl, hfin'⟩
                | some c => exact h2 c rfl none rfl Γ _ _ hm hfin'
        · simp at hev
      · simp at hev
    · simp at he
  · simp at he
end
end Go.Sx
