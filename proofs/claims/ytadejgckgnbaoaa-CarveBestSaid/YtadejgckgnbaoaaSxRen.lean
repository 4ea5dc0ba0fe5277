/- Values and objects under other numbers; calls that read and write objects. -/
import Derived.Test.YtadejgckgnbaoaaSxEff3
namespace Go.Sx
open Go
set_option linter.unusedSimpArgs false
set_option linter.unusedVariables false

mutual
def V.re (f : Nat → Option Nat) : V → V
  | .ref id off => match f id with | some k => .ref k off | none => .top
  | .sl e id off len => match f id with | some k => .sl e k off len | none => .top
  | .mp id => match f id with | some k => .mp k | none => .top
  | .yld id => match f id with | some k => .yld k | none => .top
  | .fn g a c => .fn g (V.reL f a) (V.reL f c)
  | .agg cs => .agg (V.reL f cs)
  | .tup vs => .tup (V.reL f vs)
  | .when b x => .when b (V.re f x)
  | .top => .top
  | .d x => .d x
  | .rop cells => .rop cells
def V.reL (f : Nat → Option Nat) : List V → List V
  | [] => []
  | v :: vs => V.re f v :: V.reL f vs
end

theorem reL_eq (f : Nat → Option Nat) (vs : List V) : V.reL f vs = vs.map (V.re f) := by
  induction vs with
  | nil => simp [V.reL]
  | cons v vs ih => simp [V.reL, ih]

theorem RV.re {bs bs' : Bs} {Z : Nat → Prop} {w : World} {v : V} {c : Value} (f : Nat → Option Nat) (h : RV bs Z w v c) (hb : ∀ (i j : Nat) (o : Option (Nat × Nat)), f i = some j → bs[i]? = some o → bs'[j]? = some o) :
    RV bs' Z w (v.re f) c := by
  induction h with
  | top c => simp [V.re]; exact .top c
  | d x c h => simp [V.re]; exact .d x c h
  | ref id off b k h =>
    simp only [V.re]
    split
    · exact .ref _ off b k (hb _ _ _ (by assumption) h)
    · exact .top _
  | sl e id off len b k cap h hc hk hm =>
    simp only [V.re]
    split
    · exact .sl e _ off len b k cap (hb _ _ _ (by assumption) h) hc hk hm
    · exact .top _
  | sl0 e id h =>
    simp only [V.re]
    split
    · exact .sl0 e _ (hb _ _ _ (by assumption) h)
    · exact .top _
  | rop cells ad f hz hc h1 hr => simp [V.re]; exact .rop cells ad f hz hc h1 hr
  | mp id b k h =>
    simp only [V.re]
    split
    · exact .mp _ b k (hb _ _ _ (by assumption) h)
    · exact .top _
  | yld id b k h =>
    simp only [V.re]
    split
    · exact .yld _ b k (hb _ _ _ (by assumption) h)
    · exact .top _
  | fn g first captured fs cs f k hl hl' hf hk hr hr' ih ih' =>
    simp only [V.re, reL_eq]
    refine .fn g _ _ fs cs f k (by simpa using hl) (by simpa using hl') hf hk (fun j x hx => ?_) (fun j x hx => ?_)
    · rw [List.getElem?_map, Option.map_eq_some_iff] at hx; obtain ⟨y, hy, rfl⟩ := hx; exact ih j y hy
    · rw [List.getElem?_map, Option.map_eq_some_iff] at hx; obtain ⟨y, hy, rfl⟩ := hx; exact ih' j y hy
  | agg cells cs f hl hf h1 hr ih =>
    simp only [V.re, reL_eq]
    refine .agg _ cs f (by simpa using hl) hf (fun j hj => h1 j (by simpa using hj)) (fun j x hx => ?_)
    rw [List.getElem?_map, Option.map_eq_some_iff] at hx; obtain ⟨y, hy, rfl⟩ := hx; exact ih j y hy
  | tup vs cs f hl hf hr ih =>
    simp only [V.re, reL_eq]
    refine .tup _ cs f (by simpa using hl) hf (fun j x hx => ?_)
    rw [List.getElem?_map, Option.map_eq_some_iff] at hx; obtain ⟨y, hy, rfl⟩ := hx; exact ih j y hy
  | when b x c h h' ih => simp only [V.re]; exact .when b _ c ih h'

def O.re (f : Nat → Option Nat) : O → O
  | .cells xs => .cells (V.reL f xs)
  | .data ds => .data ds
  | .fixed ds => .fixed ds
  | .map kvs => .map kvs
  | .loop st ps as bd N T => .loop st ps as bd N (T.map fun q => (q.1, q.2.re f))

theorem okO.re {bs bs' : Bs} {Z : Nat → Prop} {w : World} {o : O} {b : Option (Nat × Nat)} (f : Nat → Option Nat) (h : okO bs Z w o b) (hb : ∀ (i j : Nat) (o : Option (Nat × Nat)), f i = some j → bs[i]? = some o → bs'[j]? = some o) :
    okO bs' Z w (o.re f) b := by
  cases o with
  | cells xs =>
    cases b with
    | none => simp only [okO] at h; subst h; simp [O.re, V.reL, okO]
    | some p =>
      obtain ⟨k, q⟩ := p
      obtain ⟨cs, t, hh, hk, hl, hx⟩ := h
      simp only [O.re, reL_eq]
      refine ⟨cs, t, hh, hk, by simpa using hl, fun j x hj => ?_⟩
      rw [List.getElem?_map, Option.map_eq_some_iff] at hj
      obtain ⟨y, hy, rfl⟩ := hj
      obtain ⟨c, hc, h1, hr⟩ := hx j y hy
      exact ⟨c, hc, h1, hr.re f hb⟩
  | data ds =>
    cases b with
    | none => exact h
    | some p => exact h
  | fixed ds =>
    cases b with
    | none => exact h
    | some p => exact h
  | map kvs =>
    cases b with
    | none => exact h
    | some p => exact h
  | loop st ps as bd N T =>
    cases b with
    | none => exact h
    | some p =>
      obtain ⟨k, q⟩ := p
      obtain ⟨r, h1, h2, h3, h4, h5, h6, h7⟩ := h
      refine ⟨r, h1, h2, h3, h4, h5, h6, fun i x hx => ?_⟩
      simp only [List.mem_map] at hx
      obtain ⟨⟨j, y⟩, hy, he⟩ := hx
      simp at he
      obtain ⟨rfl, rfl⟩ := he
      exact ⟨(h7 j y hy).1, (h7 j y hy).2.re f hb⟩

/-- A row of data, as a row that stays where it is; and back. -/
def O.fix : O → O
  | .data ds => .fixed ds
  | o => o
def O.unfix : O → O
  | .fixed ds => .data ds
  | o => o

theorem okO.fix {bs : Bs} {Z : Nat → Prop} {w : World} {o : O} {b : Option (Nat × Nat)} (h : okO bs Z w o b) : okO bs Z w o.fix b := by
  cases o <;> cases b <;> exact h
theorem okO.unfix {bs : Bs} {Z : Nat → Prop} {w : World} {o : O} {b : Option (Nat × Nat)} (h : okO bs Z w o b) : okO bs Z w o.unfix b := by
  cases o <;> cases b <;> exact h

/-- Whatever is run at values in a world, with objects: from the objects H and the arguments to the objects H' and the result. -/
def HRun (K : Array Value → World → (Ending → World → Prop) → Prop) (args : List V) (H : List O) (r : V) (H' : List O) : Prop :=
  ∀ (Γ : Ctx) (bs : Bs) (Z : Nat → Prop) (w : World) (cs : Array Value), InvW Γ H bs Z w → Γ.n0 ≤ H.length → cs.size = args.length →
    (∀ (j : Nat) x c, args[j]? = some x → cs[j]? = some c → RV bs Z w x c) →
    K cs w (fun e w' => ∃ c bs' Z', e = .returned c ∧ InvW Γ H' bs' Z' w' ∧ RV bs' Z' w' r c)

/-- A call of a function with objects: from the objects H and the arguments to the objects H' and the result. -/
structure HCall (P : Program) (f : FuncId) (args : List V) (H : List O) (r : V) (H' : List O) : Prop where
  ok : FnOk P f
  run : HRun (fun cs w R => Calls P f cs w R) args H r H'

/-- The fence that lets all in, for a frame of a function or of a round. -/
def wideAt (ro : Option Nat) : Fence := { Fence.wide with round := ro }
/-- A call of a loop's yield: the record lies there; a round on its temporaries with the arguments in the parameters. -/
def YRun (P : Program) (cs : Array Value) (w : World) (R : Ending → World → Prop) : Prop :=
  ∃ (l : Nat) (r : Loop), cs[0]? = some (.func (.yield l) #[] #[]) ∧ w.heap[l]? = some (.loop r) ∧ cs.size = r.params.size + 1 ∧
    RoundIn Fence.wide 0 P l r.fn ((r.params.zip (cs.extract 1 cs.size)).foldl (fun tmps (t, a) => tmps.setIfInBounds t a) r.tmps) r.assign r.body w R
/-- A call of yield with objects; the first argument is yield itself. -/
def YCall (P : Program) (args : List V) (H : List O) (r : V) (H' : List O) : Prop := HRun (YRun P) args H r H'
theorem YRun.mono {P : Program} {cs : Array Value} {w : World} {R R' : Ending → World → Prop} (h : YRun P cs w R) (hr : ∀ e w, R e w → R' e w) : YRun P cs w R' := by
  obtain ⟨l, r, h1, h2, h3, h4⟩ := h
  exact ⟨l, r, h1, h2, h3, h4.mono hr⟩

/-- Number i of the caller's, as a number of the callee's. -/
def inIds : List Nat → Nat → Nat → Option Nat
  | [], _, _ => none
  | k :: ks, n, i => if k == i then some n else inIds ks (n + 1) i
/-- Number j of the callee's, as a number of the caller's, who has m objects. -/
def outIds (ids : List Nat) (m : Nat) (j : Nat) : Option Nat :=
  match ids[j]? with
  | some i => some i
  | none => some (m + (j - ids.length))

def fixAt (b : Bool) (o : O) : O := cond b o.fix o
def unfixAt (b : Bool) (o : O) : O := cond b o.unfix o

/-- The objects that a call is handed: number, and whether it is to stay where it is. -/
def subH (H : List O) (is : List Nat) : List (Nat × Bool) → Option (List O)
  | [] => some []
  | p :: ps =>
    match H[p.1]?, subH H is ps with
    | some o, some os => if p.2 && !o.isData then none else some (fixAt p.2 (o.re (inIds is 0)) :: os)
    | _, _ => none

def nodupB : List Nat → Bool
  | [] => true
  | k :: ks => !(ks.contains k) && nodupB ks

/-- Objects that may have come to lie elsewhere. -/
def movedIds (ids : List (Nat × Bool)) (Hs : List O) : List Nat := ((ids.zip Hs).filter fun q => q.2.isData).map (·.1.1)

/-- The objects that were handed, as the caller has them behind the call. -/
def oldH (H' : List O) (g : Nat → Option Nat) : Nat → List (Nat × Bool) → Option (List O)
  | _, [] => some []
  | n, p :: ps =>
    match H'[n]?, oldH H' g (n + 1) ps with
    | some o, some os => some (unfixAt p.2 (o.re g) :: os)
    | _, _ => none

/-- The caller's objects behind the call. -/
def mergeH (is : List Nat) (olds : List O) (nm : Nat → Bool) : Nat → List O → List O
  | _, [] => []
  | i, o :: os => (match inIds is 0 i with
    | some j => (olds[j]?).getD (o.only nm)
    | none => o.only nm) :: mergeH is olds nm (i + 1) os
def mergeB (is : List Nat) (bs' : Bs) : Nat → Bs → Bs
  | _, [] => []
  | i, b :: bs => (match inIds is 0 i with
    | some j => (bs'[j]?).getD b
    | none => b) :: mergeB is bs' (i + 1) bs

theorem mergeH_get (is : List Nat) (olds : List O) (nm : Nat → Bool) : ∀ (H : List O) (k i : Nat), (mergeH is olds nm k H)[i]? = (H[i]?).map fun o => match inIds is 0 (k + i) with
    | some j => (olds[j]?).getD (o.only nm)
    | none => o.only nm := by
  intro H
  induction H with
  | nil => intro k i; simp [mergeH]
  | cons o H ih =>
    intro k i
    cases i with
    | zero => simp [mergeH]
    | succ i => simp only [mergeH, List.getElem?_cons_succ, ih, Nat.add_assoc, Nat.add_comm 1 i]
theorem mergeB_get (is : List Nat) (bs' : Bs) : ∀ (bs : Bs) (k i : Nat), (mergeB is bs' k bs)[i]? = (bs[i]?).map fun b => match inIds is 0 (k + i) with
    | some j => (bs'[j]?).getD b
    | none => b := by
  intro bs
  induction bs with
  | nil => intro k i; simp [mergeB]
  | cons o H ih =>
    intro k i
    cases i with
    | zero => simp [mergeB]
    | succ i => simp only [mergeB, List.getElem?_cons_succ, ih, Nat.add_assoc, Nat.add_comm 1 i]
theorem mergeH_length (is : List Nat) (olds : List O) (nm : Nat → Bool) (H : List O) (k : Nat) : (mergeH is olds nm k H).length = H.length := by
  induction H generalizing k with
  | nil => rfl
  | cons o H ih => simp [mergeH, ih]
theorem mergeB_length (is : List Nat) (bs' : Bs) (bs : Bs) (k : Nat) : (mergeB is bs' k bs).length = bs.length := by
  induction bs generalizing k with
  | nil => rfl
  | cons o H ih => simp [mergeB, ih]

theorem inIds_some : ∀ (is : List Nat) (n i j : Nat), inIds is n i = some j → n ≤ j ∧ is[j - n]? = some i := by
  intro is
  induction is with
  | nil => intro n i j h; simp [inIds] at h
  | cons k is ih =>
    intro n i j h
    unfold inIds at h
    split at h
    · rename_i e; simp at e h; subst e; subst h; simp
    · obtain ⟨h1, h2⟩ := ih (n + 1) i j h
      refine ⟨by omega, ?_⟩
      rw [show j - n = (j - (n + 1)) + 1 by omega]; simpa using h2
theorem inIds_get : ∀ (is : List Nat) (n i j : Nat), nodupB is = true → is[j]? = some i → inIds is n i = some (n + j) := by
  intro is
  induction is with
  | nil => intro n i j _ h; simp at h
  | cons k is ih =>
    intro n i j hn h
    simp only [nodupB, Bool.and_eq_true, Bool.not_eq_true'] at hn
    unfold inIds
    cases j with
    | zero => simp at h; subst h; simp
    | succ j =>
      simp at h
      have hne : (k == i) = false := by
        rw [beq_eq_false_iff_ne]
        rintro rfl
        have := hn.1
        simp at this
        exact this (List.mem_of_getElem? h)
      rw [hne]
      simp only [Bool.false_eq_true, if_false]
      rw [ih (n + 1) i j hn.2 h]
      congr 1; omega
end Go.Sx
