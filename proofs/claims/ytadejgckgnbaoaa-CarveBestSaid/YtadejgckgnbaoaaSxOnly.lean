/- Values without some of the call's own objects; the evaluator looks at its operands alone. -/
import Derived.Test.YtadejgckgnbaoaaSxSound6
namespace Go.Sx
open Go
set_option linter.unusedSimpArgs false
set_option linter.unusedVariables false

mutual
def V.only (p : Nat → Bool) : V → V
  | .ref id off => if p id then .ref id off else .top
  | .sl e id off len => if p id then .sl e id off len else .top
  | .mp id => if p id then .mp id else .top
  | .yld id => if p id then .yld id else .top
  | .fn g f c => .fn g (V.onlyL p f) (V.onlyL p c)
  | .agg cs => .agg (V.onlyL p cs)
  | .tup vs => .tup (V.onlyL p vs)
  | .when b x => .when b (V.only p x)
  | .top => .top
  | .d x => .d x
  | .rop cells => .rop cells
def V.onlyL (p : Nat → Bool) : List V → List V
  | [] => []
  | v :: vs => V.only p v :: V.onlyL p vs
end

theorem onlyL_eq (p : Nat → Bool) (vs : List V) : V.onlyL p vs = vs.map (V.only p) := by
  induction vs with
  | nil => simp [V.onlyL]
  | cons v vs ih => simp [V.onlyL, ih]

example : V.only (fun i => i == 3) (.agg [.ref 3 0, .ref 4 0]) = .agg [.ref 3 0, .top] := rfl

theorem RV.only {bs bs' : Bs} {Z : Nat → Prop} {w : World} {v : V} {c : Value} (p : Nat → Bool) (h : RV bs Z w v c) (hb : ∀ (i : Nat) (o : Option (Nat × Nat)), p i = true → bs[i]? = some o → bs'[i]? = some o) :
    RV bs' Z w (v.only p) c := by
  induction h with
  | top c => simp [V.only]; exact .top c
  | d x c h => simp [V.only]; exact .d x c h
  | ref id off b k h =>
    simp only [V.only]
    split
    · exact .ref id off b k (hb _ _ (by assumption) h)
    · exact .top _
  | sl e id off len b k cap h hc hk hm =>
    simp only [V.only]
    split
    · exact .sl e id off len b k cap (hb _ _ (by assumption) h) hc hk hm
    · exact .top _
  | sl0 e id h =>
    simp only [V.only]
    split
    · exact .sl0 e id (hb _ _ (by assumption) h)
    · exact .top _
  | rop cells ad f hz hc h1 hr => simp [V.only]; exact .rop cells ad f hz hc h1 hr
  | mp id b k h =>
    simp only [V.only]
    split
    · exact .mp id b k (hb _ _ (by assumption) h)
    · exact .top _
  | yld id b k h =>
    simp only [V.only]
    split
    · exact .yld id b k (hb _ _ (by assumption) h)
    · exact .top _
  | fn g first captured fs cs f k hl hl' hf hk hr hr' ih ih' =>
    simp only [V.only, onlyL_eq]
    refine .fn g _ _ fs cs f k (by simpa using hl) (by simpa using hl') hf hk (fun j x hx => ?_) (fun j x hx => ?_)
    · rw [List.getElem?_map, Option.map_eq_some_iff] at hx; obtain ⟨y, hy, rfl⟩ := hx; exact ih j y hy
    · rw [List.getElem?_map, Option.map_eq_some_iff] at hx; obtain ⟨y, hy, rfl⟩ := hx; exact ih' j y hy
  | agg cells cs f hl hf h1 hr ih =>
    simp only [V.only, onlyL_eq]
    refine .agg _ cs f (by simpa using hl) hf (fun j hj => h1 j (by simpa using hj)) (fun j x hx => ?_)
    rw [List.getElem?_map, Option.map_eq_some_iff] at hx; obtain ⟨y, hy, rfl⟩ := hx; exact ih j y hy
  | tup vs cs f hl hf hr ih =>
    simp only [V.only, onlyL_eq]
    refine .tup _ cs f (by simpa using hl) hf (fun j x hx => ?_)
    rw [List.getElem?_map, Option.map_eq_some_iff] at hx; obtain ⟨y, hy, rfl⟩ := hx; exact ih j y hy
  | when b x c h h' ih => simp only [V.only]; exact .when b _ c ih h'

theorem lenCase (tt : Tab) (H : List O) {get get' : Operand → V} (l : List Operand) (tl : List TypeId) (hx : ∀ x ∈ l, get x = get' x) : evLenC tt H get l tl = evLenC tt H get' l tl := by
  match l, tl, hx with
  | [], _, _ => rfl
  | [x], [], _ => rfl
  | [x], t :: _, hx => simp only [evLenC, hx x (by simp)]
  | _ :: _ :: _, _, _ => rfl
theorem appCase (tt : Tab) (h : Hint) {get get' : Operand → V} (l : List Operand) (tl : List TypeId) (hx : ∀ x ∈ l, get x = get' x) : evAppC tt h get l tl = evAppC tt h get' l tl := by
  match l, tl, hx with
  | [], _, _ => rfl
  | [_], _, _ => rfl
  | [s, x], [], _ => rfl
  | [s, x], [_], _ => rfl
  | [s, x], [t, t'], hx => simp only [evAppC, hx s (by simp), hx x (by simp)]
  | [s, x], _ :: _ :: _ :: _, _ => rfl
  | _ :: _ :: _ :: _, _, _ => rfl

theorem evPure_congr {P : Program} {tt : Tab} {o : Oper} {h : Hint} {get get' : Operand → V} {H : List O} (hg : ∀ x ∈ o.op.operands, get x = get' x) : evPure P tt o h get H = evPure P tt o h get' H := by
  unfold evPure
  have pairs : ∀ (place) (vs : List V) (ps : List (Nat × Operand)), (∀ p ∈ ps, get p.2 = get' p.2) → buildFrom place get vs ps = buildFrom place get' vs ps := by
    intro place vs ps
    induction ps generalizing vs with
    | nil => intro _; rfl
    | cons p ps ih =>
      intro hp
      obtain ⟨i, x⟩ := p
      simp only [buildFrom, hp (i, x) (by simp)]
      simp only [fun vs => ih vs (fun p h => hp p (by simp [h]))]
  have rowp : ∀ (e k : Nat) (ps : List (Nat × Operand)), (∀ p ∈ ps, get p.2 = get' p.2) → buildRow e get k ps = buildRow e get' k ps := by
    intro e k ps
    induction ps generalizing k with
    | nil => intro _; rfl
    | cons p ps ih =>
      intro hp
      obtain ⟨i, x⟩ := p
      simp only [buildRow, hp (i, x) (by simp)]
      simp only [fun k => ih k (fun p h => hp p (by simp [h]))]
  cases hop : o.op <;> simp only [hop, Op.operands] at hg <;> simp only []
  case move x => rw [hg x (by simp)]
  case assign x => rw [hg x (by simp)]
  case pick c x y => rw [hg c (by simp), hg x (by simp), hg y (by simp)]
  case load t x => rw [hg x (by simp)]
  case fieldAddr s x f => rw [hg x (by simp)]
  case field s x f => rw [hg x (by simp)]
  case indexAddr t x k => rw [hg x (by simp), hg k (by simp)]
  case index t x k => rw [hg x (by simp), hg k (by simp)]
  case lookup t x k ok => rw [hg x (by simp), hg k (by simp)]
  case slice t x lo hi mx =>
    cases mx <;> simp only []
    have e1 : lo.map get = lo.map get' := by
      cases lo with
      | none => rfl
      | some y => simp [hg y (by simp)]
    have e2 : hi.map get = hi.map get' := by
      cases hi with
      | none => rfl
      | some y => simp [hg y (by simp)]
    rw [e1, e2, hg x (by simp)]
  case extract t k => rw [hg t (by simp)]
  case build t parts =>
    have e : ∀ p ∈ parts.toList, get p.2 = get' p.2 := fun p hp => hg p.2 (by simp; exact ⟨p.1, by simpa using hp⟩)
    unfold evBuild
    simp only [pairs _ _ _ e]
  case buildSlice t len parts =>
    have e : ∀ p ∈ parts.toList, get p.2 = get' p.2 := fun p hp => hg p.2 (by simp; exact ⟨p.1, by simpa using hp⟩)
    unfold evBuildRow
    simp only [rowp _ _ _ e]
  case binOp op t x y u => rw [hg x (by simp), hg y (by simp)]
  case unOp op t x => rw [hg x (by simp)]
  case convert s t x => rw [hg x (by simp)]
  case nilCheck x => rw [hg x (by simp)]
  case makeFunc g first captured =>
    have e1 : first.toList.map get = first.toList.map get' := List.map_congr_left fun x hx => hg x (by simp; left; simpa using hx)
    have e2 : captured.toList.map get = captured.toList.map get' := List.map_congr_left fun x hx => hg x (by simp; right; simpa using hx)
    rw [e1, e2]
  case call c =>
    have ea : ∀ x ∈ c.args.toList, get x = get' x := fun x hx => hg x (by simp [Call.operands]; right; simpa using hx)
    have e : c.args.toList.map get = c.args.toList.map get' := List.map_congr_left ea
    cases hcal : c.callee with
    | value f =>
      have ef : get f = get' f := hg f (by simp [Call.operands, hcal])
      simp only [e, ef]
    | invoke => rfl
    | builtin b =>
      have h2 := lenCase tt H (get := get) (get' := get') c.args.toList c.argTypes.toList ea
      have h3 := appCase tt h (get := get) (get' := get') c.args.toList c.argTypes.toList ea
      cases b <;> first | rfl | exact h2 | exact h3 | simp only [e]

end Go.Sx
