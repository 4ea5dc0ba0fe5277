/- A row's promise behind a call that only adds to the memory. -/
import Derived.Test.YtadejgckgnbaoaaSxMore3
import Derived.ChangeSame
import Derived.ProofKit
import Derived.OpenShut
namespace Go.Sx
open Go Go.ChangeShapes Go.WideShapes Go.ChangeAt Go.RowKit
set_option linter.unusedVariables false

/-- The call returns v; what was there is as it was. -/
def Told (P : Program) (f : FuncId) (cs : Array Value) (w : World) (v : Value) : Prop :=
  Calls P f cs w fun e w' => e = .returned v ∧ ∃ Z Z', Grow Z w Z' w'

theorem Grow.kept {Z Z' : Nat → Prop} {w w' : World} (h : Grow Z w Z' w') (may : MemPlace → Prop) : w.keptBut w' may := by
  refine ⟨h.os, h.output, fun i hi => ?_⟩
  rw [h.heap i hi]
  cases ho : w.heap[i]? with
  | none => trivial
  | some o =>
    cases o with
    | cells c t fr => exact ⟨rfl, rfl, rfl, fun _ _ => rfl⟩
    | map es k => exact .inr ⟨rfl, rfl⟩
    | _ => rfl
theorem Grow.frozen {Z Z' : Nat → Prop} {w w' : World} (h : Grow Z w Z' w') (a : Addr) (ha : a.block < w.heap.size) : w'.frozen? a = w.frozen? a := by
  simp only [World.frozen?, h.heap _ ha]

section
variable {H : Type} {enc : TypeId × Value → H} {P : Program}
theorem post_of_grow {f : Func} {s : ChangeSpec} {apart fresh handsOn again : Bool} {W W' : World} {args : Array Value} {v : Value} {ds gs : List (DataW H)} {before pa pv : List MemPlace}
    (hW : DataW.Whole enc P f.params.toList s.vars apart W args.toList ds gs before)
    (hres : ∀ (b : Nat) (sp : Nat → Bool) (hd : Bool), DataW.TrodAll enc P W' b sp hd f.resultTypes.toList (v.resultList f.resultTypes.size) (s.fn H (ds ++ gs)).results [])
    (hargs : ∀ sp : Nat → Bool, (∀ p ∈ before, sp p.block = true) → DataW.TrodAll enc P W' 0 sp true f.params.toList args.toList (s.fn H (ds ++ gs)).args pa)
    (hvars : ∀ sp : Nat → Bool, (∀ p ∈ before, sp p.block = true) → DataW.TrodVars enc P W' sp s.vars (s.fn H (ds ++ gs)).vars pv)
    (hps : before = pa ++ pv) {Z Z' : Nat → Prop} (hg : Grow Z W Z' W')
    (hok : ∀ (j : Nat) (t : TypeId) (r : Value), f.resultTypes[j]? = some t → (v.resultList f.resultTypes.size)[j]? = some r → Value.okWide P W' .any 0 t r) :
    s.post enc P f apart fresh handsOn again W args v W' := by
  have hin : ∀ p ∈ before, p.block < W.heap.size := hW.lt
  have hsp : ∀ p ∈ before, decide (p.block < W.heap.size) = true := fun p hp => decide_eq_true (hin p hp)
  subst hps
  refine ⟨ds, gs, pa ++ pv, [], pa, pv, hW, hres _ _ _, hargs (fun b => decide (b < W.heap.size)) hsp, hvars (fun b => decide (b < W.heap.size)) hsp, ?_, fun _ => ⟨hok, ?_⟩⟩
  · exact hg.kept _
  · have hW2 := hW
    obtain ⟨_, _, _, _, _, hz, hn⟩ := hW2
    refine ⟨_, _, ([] ++ pa) ++ pv, ⟨[] ++ pa, pv, trodAll_append (hargs _ (fun _ _ => rfl)) (hres _ _ _), hvars _ (fun _ _ => rfl), rfl, ?_, fun ha => ?_⟩, ?_⟩
    · intro b off hp
      have hp' : MemPlace.cell b off ∈ pa ++ pv := by simpa using hp
      rw [hg.frozen _ (hin _ hp')]
      exact hz b off hp'
    · simpa using hn ha
    · intro p hp _
      simpa using hp
end

theorem PCall.told {P : Program} {f : FuncId} {r : Value} (h : PCall P f [] (.d (.v r))) (w : World) : Told P f #[] w r := by
  refine (h.run (fun _ => False) w #[] (fun _ h => h.elim) rfl (fun j x c hx => by simp at hx)).mono ?_
  rintro e w' ⟨c, Z', rfl, hg, hr⟩
  exact ⟨by rw [hr.lit], _, _, hg⟩
end Go.Sx
