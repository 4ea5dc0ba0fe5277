/- A table of types is checked by running a Bool over it. -/
import Derived.Test.YtadejgckgnbaoaaSxDraw3
namespace Go.Sx
open Go
set_option linter.unusedSimpArgs false
set_option linter.unusedVariables false

def litEq : Value → Value → Bool
  | .int k a, .int k' b => IntKind.same k k' && (a == b)
  | .bool a, .bool b => a == b
  | .string a, .string b => Nat.beq a.data.toList.length 0 && Nat.beq b.data.toList.length 0
  | .pointer none, .pointer none => true
  | .slice none 0 0, .slice none 0 0 => true
  | .map none, .map none => true
  | .nilFunc, .nilFunc => true
  | .nilIface, .nilIface => true
  | _, _ => false

theorem litEq_eq {a b : Value} (h : litEq a b = true) : a = b ∧ a.oneCell' = true := by
  unfold litEq at h
  split at h
  · simp at h; rw [same_eq h.1, h.2]; exact ⟨rfl, rfl⟩
  · simp at h; rw [h]; exact ⟨rfl, rfl⟩
  · rename_i a b
    rw [Bool.and_eq_true, Nat.beq_eq, Nat.beq_eq] at h
    obtain ⟨⟨a⟩⟩ := a
    obtain ⟨⟨b⟩⟩ := b
    have h1 : a = [] := List.eq_nil_of_length_eq_zero h.1
    have h2 : b = [] := List.eq_nil_of_length_eq_zero h.2
    rw [h1, h2]; exact ⟨rfl, rfl⟩
  all_goals first
    | exact ⟨rfl, rfl⟩
    | simp at h

def litsEq : List Value → List Value → Bool
  | [], [] => true
  | a :: as, b :: bs => litEq a b && litsEq as bs
  | _, _ => false

theorem litsEq_eq : ∀ {as bs : List Value}, litsEq as bs = true → as = bs ∧ ∀ c ∈ bs, c.oneCell' = true := by
  intro as
  induction as with
  | nil => intro bs h; cases bs <;> simp [litsEq] at h; simp
  | cons a as ih =>
    intro bs h
    cases bs with
    | nil => simp [litsEq] at h
    | cons b bs =>
      simp [litsEq] at h
      obtain ⟨rfl, h1⟩ := litEq_eq h.1
      obtain ⟨rfl, h2⟩ := ih h.2
      refine ⟨rfl, fun c hc => ?_⟩
      rcases List.mem_cons.1 hc with rfl | hc
      · exact h1
      · exact h2 c hc

def isAggD : TypeDesc → Bool
  | .struct _ | .array _ _ => true
  | _ => false

def fieldsB (P : Program) : List Field → List (Nat × Nat × Bool) → Bool
  | [], [] => true
  | f :: fs, (off, s, g) :: ps =>
    (match P.info? f.type, P.underlying f.type with
     | some i, some u => Nat.beq f.offset off && Nat.beq i.size s && (isAggD u == g) && Nat.blt 0 s
     | _, _ => false) && fieldsB P fs ps
  | _, _ => false

theorem fieldsB_ok {P : Program} : ∀ {fs : List Field} {ps : List (Nat × Nat × Bool)}, fieldsB P fs ps = true → ps.length = fs.length ∧ ∀ (j : Nat) (f : Field), fs[j]? = some f →
    ∃ i u, P.info? f.type = some i ∧ P.underlying f.type = some u ∧ ps[j]? = some (f.offset, i.size, (u matches .struct _ | .array _ _)) ∧ 0 < i.size := by
  intro fs
  induction fs with
  | nil => intro ps h; cases ps <;> simp [fieldsB] at h; simp
  | cons f fs ih =>
    intro ps h
    cases ps with
    | nil => simp [fieldsB] at h
    | cons p ps =>
      obtain ⟨off, s, g⟩ := p
      simp only [fieldsB, Bool.and_eq_true] at h
      obtain ⟨h1, h2⟩ := h
      obtain ⟨h3, h4⟩ := ih h2
      refine ⟨by simp [h3], fun j f' hj => ?_⟩
      cases j with
      | zero =>
        simp at hj; subst hj
        split at h1
        · rename_i i u hi hu
          simp at h1
          obtain ⟨⟨⟨e1, e2⟩, e3⟩, e4⟩ := h1
          refine ⟨i, u, hi, hu, ?_, by omega⟩
          subst e1; subst e2; subst e3
          simp only [List.getElem?_cons_zero, Option.some.injEq, Prod.mk.injEq, true_and]
          cases u <;> rfl
        · simp at h1
      | succ j => simp at hj; simpa using h4 j f' hj

def kindB (P : Program) : TK → TypeDesc → Bool
  | .int k, .int k' => IntKind.same k k'
  | .bool, .bool => true
  | .string, .string => true
  | .struct fs, .struct fields => fieldsB P fields.toList fs
  | .array n e, .array n' e' => Nat.beq n n' && Nat.beq e e'
  | .slice e, .slice e' => Nat.beq e e'
  | .map k v, .map k' v' => Nat.beq k k' && Nat.beq v v'
  | .other, .pointer _ => true
  | .other, .func .. => true
  | _, _ => false

theorem kindB_ok {P : Program} {k : TK} {d : TypeDesc} (h : kindB P k d = true) : TK.ok P k d := by
  unfold kindB at h
  split at h
  · simp only [TK.ok]; rw [same_eq h]
  · rfl
  · rfl
  · obtain ⟨h1, h2⟩ := fieldsB_ok h
    exact ⟨_, rfl, by simpa using h1, fun j f hf => h2 j f (by simpa using hf)⟩
  · simp only [Bool.and_eq_true, Nat.beq_eq] at h; simp only [TK.ok]; rw [h.1, h.2]
  · simp only [Nat.beq_eq] at h; simp only [TK.ok]; rw [h]
  · simp only [Bool.and_eq_true, Nat.beq_eq] at h; simp only [TK.ok]; rw [h.1, h.2]
  · rfl
  · rfl
  · simp at h

def tiB (P : Program) (t : TypeId) (i : TI) : Bool :=
  match P.info? t, P.underlying t with
  | some info, some d =>
    match info.zero with
    | some z => Nat.beq info.size i.size && Nat.beq info.bytes i.bytes && litsEq z.cells.toList i.zero && kindB P i.kind d && (i.agg == isAggD d) && Nat.beq i.zero.length i.size && (z.isAgg == i.agg)
    | none => false
  | _, _ => false

def tabB (P : Program) : Tab → Bool
  | [] => true
  | (t, i) :: tt => tiB P t i && tabB P tt

theorem tabB_ok {P : Program} : ∀ {tt : Tab}, tabB P tt = true → Tab.ok P tt := by
  intro tt
  induction tt with
  | nil => intro _ t i h; simp at h
  | cons p tt ih =>
    intro h t i hl
    obtain ⟨t', i'⟩ := p
    simp [tabB] at h
    rw [List.lookup_cons] at hl
    split at hl
    · rename_i e
      simp at e hl
      subst e; subst hl
      have h1 := h.1
      unfold tiB at h1
      split at h1
      · rename_i info d hi hd
        split at h1
        · rename_i z hz
          simp only [Bool.and_eq_true, beq_iff_eq, Nat.beq_eq] at h1
          obtain ⟨⟨⟨⟨⟨⟨e1, e2⟩, e3⟩, e4⟩, e5⟩, e6⟩, e9⟩ := h1
          obtain ⟨e7, e8⟩ := litsEq_eq e3
          exact ⟨⟨info, z, hi, e1, e2, hz, e7⟩, ⟨d, hd, kindB_ok e4, by rw [e5]; cases d <;> rfl⟩, e8, e6, fun info' z' hi' hz' => by rw [hi] at hi'; simp at hi'; subst hi'; rw [hz] at hz'; simp at hz'; subst hz'; exact e9⟩
        · simp at h1
      · simp at h1
    · exact ih h.2 t i hl

theorem awp_sdraw {P : Program} {tt : Tab} {rd : Bool} {N fl : Nat} (hT : Tab.ok P tt) (hm : P.follows .mixedOrders = true) {id : Nat} {ops : Array Oper} {y : Code} {hs : List Hint} {ks : List Nat} {T : St} {H : List O} {Q : Exit → St → List O → Prop}
    (m : Nat) (mid : List Nat) (T' : St) (H' : List O) (ps : List Prop) (he : evDraw P tt N m ops hs mid ks T H = some (T', H', ps)) (hp : AllP ps) (hq : awp P rd N fl y Q T' H') : awp P rd N fl (.seq (.region id ops true) y) Q T H :=
  awp_seq (awp_draw hT hm he hp hq)
end Go.Sx
