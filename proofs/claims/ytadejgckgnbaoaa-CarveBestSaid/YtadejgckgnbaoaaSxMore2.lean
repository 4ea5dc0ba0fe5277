/- Functions from objects to objects, whatever of their own objects they hand back. -/
import Derived.Test.YtadejgckgnbaoaaSxMore
namespace Go.Sx
open Go
set_option linter.unusedSimpArgs false
set_option linter.unusedVariables false

section
variable {P : Program} {tt : Tab} {N : Nat} {T : St} {H : List O}

theorem selB_re {is : List Nat} {bs : Bs} : ∀ (i j : Nat) (o : Option (Nat × Nat)), inIds is 0 i = some j → bs[i]? = some o → (selB is bs)[j]? = some o := by
  intro i j o h1 h2
  obtain ⟨_, h3⟩ := inIds_some is 0 i j h1
  simp only [Nat.sub_zero] at h3
  simp only [selB, List.getElem?_map, h3, Option.map_some, h2, Option.getD_some]

theorem InvW.sel {Γ : Ctx} {bs : Bs} {Z : Nat → Prop} {w : World} {fl : Nat} (hW : InvW Γ H bs Z w) (is : List Nat) (hok : selOk is H.length fl = true) (hm : Γ.n0 ≤ fl) : InvW Γ (selH is H) (selB is bs) Z w := by
  simp only [selOk, Bool.and_eq_true] at hok
  obtain ⟨⟨hnd, hlt⟩, hf⟩ := hok
  have hlt' : ∀ i ∈ is, i < H.length := fun i hi => by simpa using List.all_eq_true.1 hlt i hi
  have hget : ∀ (j : Nat) (q : Option (Nat × Nat)), (selB is bs)[j]? = some q → ∃ i, is[j]? = some i ∧ bs[i]? = some q := by
    intro j q h
    simp only [selB, List.getElem?_map, Option.map_eq_some_iff] at h
    obtain ⟨i, hi, h⟩ := h
    have hib : i < bs.length := by rw [hW.lenH]; exact hlt' i (List.mem_of_getElem? hi)
    rw [List.getElem?_eq_getElem hib] at h
    simp at h
    exact ⟨i, hi, by rw [List.getElem?_eq_getElem hib, h]⟩
  constructor
  · simp [selB, selH]
  · intro j o q ho hq
    obtain ⟨i, h1, h2⟩ := hget j q hq
    simp only [selH, List.getElem?_map, h1, Option.map_some, Option.some.injEq] at ho
    have hiH : i < H.length := hlt' i (List.mem_of_getElem? h1)
    rw [List.getElem?_eq_getElem hiH] at ho
    simp only [Option.getD_some] at ho
    subst ho
    exact (hW.objs i _ q (List.getElem?_eq_getElem hiH) h2).re _ selB_re
  · intro j j' b k k' h1 h2
    obtain ⟨i, g1, g2⟩ := hget _ _ h1
    obtain ⟨i', g3, g4⟩ := hget _ _ h2
    have := hW.nodup _ _ _ _ _ g2 g4
    subst this
    have e1 := inIds_get is 0 i j hnd g1
    have e2 := inIds_get is 0 i j' hnd g3
    rw [e1] at e2; simp at e2; exact e2
  · intro j b k h; obtain ⟨i, _, g⟩ := hget _ _ h; exact hW.disj _ _ _ g
  · intro j b k h; obtain ⟨i, _, g⟩ := hget _ _ h; exact hW.lt _ _ _ g
  · exact hW.zlt
  · exact hW.z0
  · intro j b k h; obtain ⟨i, _, g⟩ := hget _ _ h; exact hW.fresh _ _ _ g
  · exact hW.zfresh
  · exact hW.size
  · exact hW.frame
  · exact hW.os
  · exact hW.tape
  · exact hW.output
  · intro i p hp
    obtain ⟨h1, o, h2, h3⟩ := hW.pin i p hp
    have hi0 : i < fl := Nat.lt_of_lt_of_le (Γ.pinlt i p hp) hm
    have hii : is[i]? = some i := by have := firstB_get is 0 fl hf i hi0; simpa using this
    refine ⟨selB_re i i p (by simpa using inIds_get is 0 i i hnd hii) h1, o.re (inIds is 0), ?_, by rw [re_isData]; exact h3⟩
    simp only [selH, List.getElem?_map, hii, Option.map_some, h2, Option.getD_some]

theorem calls_of_awp2 (hT : Tab.ok P tt) {f : FuncId} {fn : Func} {c : Code} {cs : Array Value} {Γ : Ctx} {w : World} {R : Ending → World → Prop} (hf : P.funcs[f]? = some fn) (hb : fn.body = some c)
    (h : c.wpIn Fence.wide 0 P (fun e a' w' => ∃ T' H' r, ((e = .ret ∨ e = .normal) ∧ (resL tt T' H' fn.results.toList).map resV = some r ∧ (∀ bs Z w' c, InvW Γ H' bs Z w' → RV bs Z w' r c → R (.returned c) w')) ∧ Inv N Γ T' H' a' w')
      { tmps := cs ++ Array.replicate (fn.ntmps - cs.size) undef, defers := [] } w) : Calls P f cs w R := by
  refine callsIn_wide.1 (callsIn_of_wp_marks hf hb (F := Fence.wide) (n := 0) trivial ?_)
  refine wpIn_mono h ?_
  rintro e a' w' ⟨T', H', r, ⟨he, hres, hR⟩, bs, Z, hW, hI⟩
  obtain ⟨l, hl, hnd, hm⟩ := hI.defers
  have key : LeavesInM Fence.wide 0 P fn a'.tmps R a'.defers .returning w' := by
    rw [hl]
    refine collect_all l w' hW hnd hm ?_
    intro w2 hW2 hc2
    have hI2 : InvT N Γ T' bs Z { a' with defers := [] } w2 := ⟨hI.size, .nil, fun i x hx => ⟨(hI.rel i x hx).1, (hI.rel i x hx).2.monoC (fun _ _ h => h) (fun _ h => h) (fun a _ => hc2 a)⟩⟩
    obtain ⟨c, hc1, hc3⟩ := results_run (P := P) hT hW2 hI2 hres
    exact ⟨c, hc1, hR bs Z w2 c hW2 hc3⟩
  rcases he with rfl | rfl
  · exact key
  · exact key

/-- What stands at a return: a choice of the objects, and the result behind it. -/
def retS (tt : Tab) (rs : List ResultVar) (fl : Nat) (r : V) (H' : List O) : Exit → St → List O → Prop := fun e T H => (e = .ret ∨ e = .normal) ∧ ∃ is r0, (resL tt T H rs).map resV = some r0 ∧ r0.re (inIds is 0) = r ∧ selOk is H.length fl = true ∧ selH is H = H'
theorem main_retS {rs : List ResultVar} {fl : Nat} {r : V} {T : St} {H H' : List O} (is : List Nat) (r0 : V) (h : (resL tt T H rs).map resV = some r0) (hr : r0.re (inIds is 0) = r) (hok : selOk is H.length fl = true) (hH : selH is H = H') : retS tt rs fl r H' .ret T H := ⟨.inl rfl, is, r0, h, hr, hok, hH⟩

theorem HCall.of_awpS (hT : Tab.ok P tt) {f : FuncId} {fn : Func} {c : Code} {args : List V} {r : V} {H' : List O} (hf : P.funcs[f]? = some fn) (hb : fn.body = some c) (hn : (fn.name == "runtime.NumGoroutine") = false) (hN : fn.ntmps = N) {fl : Nat} (hfl : H.length = fl)
    (hlen : args.length ≤ N) (h : awp P false N fl c (retS tt fn.results.toList fl r H') (entryV args) H) : HCall P f args H r H' := by
  subst hfl
  refine ⟨⟨fn, hf, hn, by simp [hb]⟩, ?_⟩
  intro Γ bs Z w cs hW hn0 hl hargs
  have hI := entry_rel (Γ := Γ) (n := fn.ntmps) (N := N) (bs := bs) (Z := Z) (w := w) hN hlen hl hargs
  refine calls_of_awp2 (N := N) (Γ := Γ) hT hf hb (wpIn_mono (h none rfl Γ _ w hn0 ⟨bs, Z, hW, hI⟩) ?_)
  rintro e a' w' ⟨T', H2, ⟨he, is, r0, hres, hr, hok, hH⟩, hi⟩
  subst hr; subst hH
  exact ⟨T', H2, r0, ⟨he, hres, fun bs Z w' c hW hr => ⟨c, selB is bs, Z, rfl, hW.sel is hok hn0, hr.re _ selB_re⟩⟩, hi⟩

/-- A round whose end leaves a choice of the objects. -/
def endS (fl k : Nat) (ps : List Tmp) (as bd : Code) (N : Nat) (Tl : List (Nat × V)) (r : V) (H' : List O) : Exit → St → List O → Prop := fun e T H =>
  ∃ j, jumpOf e = some j ∧ r = vb j.isNone ∧ H[k]? = some (.loop none ps as bd N Tl) ∧ H.set k (.loop (some j) ps as bd N Tl) = H'
end
end Go.Sx
