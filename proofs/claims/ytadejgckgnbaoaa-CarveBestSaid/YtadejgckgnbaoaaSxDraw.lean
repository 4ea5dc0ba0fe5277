/- Regions that draw their order: operations that make nothing of one's own, in whatever order; then a tail in its order. -/
import Derived.Test.YtadejgckgnbaoaaSxFun
namespace Go.Sx
open Go
set_option linter.unusedSimpArgs false
set_option linter.unusedVariables false

/-- All that stands ahead of each operation, along binding edges. -/
def ancOf (acc : List (List Nat)) (o : Oper) : List Nat :=
  o.after.toList.flatMap fun e => if Region.binds .any e then e.on :: (acc.getD e.on []) else []
def ancs : List Oper → List (List Nat) → List (List Nat)
  | [], acc => acc
  | o :: os, acc => ancs os (acc ++ [ancOf acc o])

/-- The slots that an operation looks at: its operands', its guard's. -/
def looks (dsts : List (Option Tmp)) (o : Oper) : List Tmp :=
  (o.op.operands.toList.filterMap fun | .tmp t => some t | _ => none) ++ (match o.guard with | some (j, _) => ((dsts[j]?).bind id).toList | none => [])

def memB (x : Nat) : List Nat → Bool
  | [] => false
  | y :: ys => Nat.beq x y || memB x ys

/-- Two operations of the body, i ahead of j: apart, or j waits for i. -/
def apartB (dsts : List (Option Tmp)) (as : List (List Nat)) (i j : Nat) (oi oj : Oper) : Bool :=
  memB i (as.getD j []) ||
  (match oi.dst with
   | some d => !memB d (looks dsts oj) && (match oj.dst with | some d' => !Nat.beq d d' | none => true)
   | none => true) &&
  (match oj.dst with
   | some d => !memB d (looks dsts oi)
   | none => true)

def pairsB (dsts : List (Option Tmp)) (as : List (List Nat)) (i : Nat) (oi : Oper) : List Oper → Nat → Bool
  | [], _ => true
  | oj :: os, j => apartB dsts as i j oi oj && pairsB dsts as i oi os (j + 1)
def allPairsB (dsts : List (Option Tmp)) (as : List (List Nat)) : List Oper → Nat → Bool
  | [], _ => true
  | o :: os, i => pairsB dsts as i o os (i + 1) && allPairsB dsts as os (i + 1)

/-- Edges lead back. -/
def backB (o : Oper) (i : Nat) : Bool := o.after.toList.all fun e => !Region.binds .any e || Nat.blt e.on i
def allBackB : List Oper → Nat → Bool
  | [], _ => true
  | o :: os, i => backB o i && allBackB os (i + 1)

/-- From m on each operation waits for all before it. -/
def tailB (as : List (List Nat)) : (i : Nat) → (n : Nat) → Bool
  | _, 0 => true
  | i, n + 1 => (List.range i).all (fun j => memB j (as.getD i [])) && tailB as (i + 1) n

def drawB (ops : List Oper) (m : Nat) : Bool :=
  let as := ancs ops []
  Nat.ble m ops.length && allBackB ops 0 && allPairsB (ops.map (·.dst)) as (ops.take m) 0 && tailB as m (ops.length - m)

def noEff : List Oper → List Hint → Bool
  | [], _ => true
  | o :: os, hs => !(isEff o (hs.headD .no) || isHC (hs.headD .no)) && noEff os hs.tail

def evDraw (P : Program) (tt : Tab) (N m : Nat) (ops : Array Oper) (hs : List Hint) (mid ks : List Nat) (T : St) (H : List O) : Option (St × List O × List Prop) :=
  if drawB ops.toList m && noEff (ops.toList.take m) hs then
    match evOps P tt N (ops.toList.map (·.dst)) (ops.toList.take m) hs T H with
    | none => none
    | some (T1, H1, ps) =>
      match evOps P tt N (ops.toList.map (·.dst)) (ops.toList.drop m) (hs.drop m) (keepT mid T1) H1 with
      | none => none
      | some (T2, H2, qs) => some (keepT ks T2, H2, ps ++ qs)
  else none

section logic
theorem memB_iff {x : Nat} {l : List Nat} : memB x l = true ↔ x ∈ l := by
  induction l with
  | nil => simp [memB]
  | cons y ys ih => simp [memB, ih]

variable {ops : List Oper}

theorem ancs_length : ∀ (os : List Oper) (acc : List (List Nat)), (ancs os acc).length = acc.length + os.length := by
  intro os
  induction os with
  | nil => intro acc; rfl
  | cons o os ih => intro acc; simp [ancs, ih]; omega

theorem ancs_prefix : ∀ (os : List Oper) (acc : List (List Nat)) (i : Nat), i < acc.length → (ancs os acc)[i]? = acc[i]? := by
  intro os
  induction os with
  | nil => intro acc i h; rfl
  | cons o os ih =>
    intro acc i h
    rw [ancs, ih _ _ (by simp; omega), List.getElem?_append_left h]

/-- A set that is closed along binding edges is closed along all that stands ahead. -/
theorem anc_closed {L : Nat → Prop} (hd : ∀ (i : Nat) (o : Oper), ops[i]? = some o → ∀ e ∈ o.after.toList, Region.binds .any e = true → e.on < i) :
    ∀ (k : Nat) (acc : List (List Nat)), acc.length = k → ancs (ops.drop k) acc = ancs ops [] → ∀ (i : Nat) (o : Oper), ops[i]? = some o → (∀ e ∈ o.after.toList, Region.binds .any e = true → L e.on) →
      (∀ (j : Nat) (o : Oper), ops[j]? = some o → L j → ∀ e ∈ o.after.toList, Region.binds .any e = true → L e.on) → k = 0 → ∀ j ∈ (ancs ops []).getD i [], L j := by
  have key : ∀ (n i : Nat), i ≤ n → ∀ (o : Oper), ops[i]? = some o → (∀ e ∈ o.after.toList, Region.binds .any e = true → L e.on) →
      (∀ (j : Nat) (o : Oper), ops[j]? = some o → L j → ∀ e ∈ o.after.toList, Region.binds .any e = true → L e.on) → ∀ j ∈ (ancs ops []).getD i [], L j := by
    -- the i-th entry
    have hent : ∀ (i : Nat) (o : Oper), ops[i]? = some o → (ancs ops []).getD i [] = ancOf ((ancs ops []).take i) o := by
      have hgen : ∀ (os : List Oper) (acc : List (List Nat)) (i : Nat) (o : Oper), os[i]? = some o → (ancs os acc)[acc.length + i]? = some (ancOf ((ancs os acc).take (acc.length + i)) o) := by
        intro os
        induction os with
        | nil => intro acc i o h; simp at h
        | cons o os ih =>
          intro acc i o' h
          cases i with
          | zero =>
            simp at h; subst h
            rw [ancs, Nat.add_zero, ancs_prefix _ _ _ (by simp)]
            simp
            congr 1
            apply List.ext_getElem?
            intro j
            rw [List.getElem?_take]
            split
            · rename_i hj
              rw [ancs_prefix _ _ _ (by simp; omega), List.getElem?_append_left hj]
            · rename_i hj
              rw [List.getElem?_eq_none (by omega)]
          | succ i =>
            simp at h
            have := ih (acc ++ [ancOf acc o]) i o' h
            rw [ancs]
            simp only [List.length_append, List.length_singleton] at this
            rw [show acc.length + (i + 1) = acc.length + 1 + i by omega]
            exact this
      intro i o h
      have := hgen ops [] i o h
      simp at this
      rw [List.getD_eq_getElem?_getD, this]; rfl
    intro n
    induction n with
    | zero =>
      intro i hi o ho hL hcl j hj
      have : i = 0 := by omega
      subst this
      rw [hent 0 o ho] at hj
      simp only [ancOf, List.mem_flatMap] at hj
      obtain ⟨e, he, hj⟩ := hj
      split at hj
      · rename_i hb
        have := hd 0 o ho e he hb
        omega
      · simp at hj
    | succ n ih =>
      intro i hi o ho hL hcl j hj
      rw [hent i o ho] at hj
      simp only [ancOf, List.mem_flatMap] at hj
      obtain ⟨e, he, hj⟩ := hj
      split at hj
      · rename_i hb
        have hlt := hd i o ho e he hb
        have hLe := hL e he hb
        rcases List.mem_cons.1 hj with rfl | hj
        · exact hLe
        · have hsub : ((ancs ops []).take i).getD e.on [] = (ancs ops []).getD e.on [] := by
            rw [List.getD_eq_getElem?_getD, List.getElem?_take, if_pos hlt, ← List.getD_eq_getElem?_getD]
          rw [hsub] at hj
          have holt : e.on < ops.length := by have := (List.getElem?_eq_some_iff.1 ho).1; omega
          exact ih e.on (by omega) ops[e.on] (List.getElem?_eq_getElem holt) (hcl e.on _ (List.getElem?_eq_getElem holt) hLe) hcl j hj
      · simp at hj
  intro k acc hk hacc i o ho hL hcl _ j hj
  exact key i i (Nat.le_refl _) o ho hL hcl j hj

theorem allBackB_at : ∀ (os : List Oper) (k : Nat), allBackB os k = true → ∀ (i : Nat) (o : Oper), os[i]? = some o → ∀ e ∈ o.after.toList, Region.binds .any e = true → e.on < k + i := by
  intro os
  induction os with
  | nil => intro k _ i o h; simp at h
  | cons o os ih =>
    intro k hb i o' h e he hbi
    simp [allBackB] at hb
    cases i with
    | zero =>
      simp at h; subst h
      have := hb.1
      simp only [backB, List.all_eq_true] at this
      have := this e he
      simp [hbi] at this
      omega
    | succ i =>
      simp at h
      have := ih (k + 1) hb.2 i o' h e he hbi
      omega

theorem pairsB_at {dsts : List (Option Tmp)} {as : List (List Nat)} {i : Nat} {oi : Oper} : ∀ (os : List Oper) (k : Nat), pairsB dsts as i oi os k = true → ∀ (j : Nat) (oj : Oper), os[j]? = some oj → apartB dsts as i (k + j) oi oj = true := by
  intro os
  induction os with
  | nil => intro k _ j o h; simp at h
  | cons o os ih =>
    intro k hb j oj h
    simp [pairsB] at hb
    cases j with
    | zero => simp at h; subst h; exact hb.1
    | succ j =>
      simp at h
      have := ih (k + 1) hb.2 j oj h
      rwa [show k + 1 + j = k + (j + 1) by omega] at this

theorem allPairsB_at {dsts : List (Option Tmp)} {as : List (List Nat)} : ∀ (os : List Oper) (k : Nat), allPairsB dsts as os k = true → ∀ (i j : Nat) (oi oj : Oper), i < j → os[i]? = some oi → os[j]? = some oj → apartB dsts as (k + i) (k + j) oi oj = true := by
  intro os
  induction os with
  | nil => intro k _ i j oi oj _ h; simp at h
  | cons o os ih =>
    intro k hb i j oi oj hij hi hj
    simp [allPairsB] at hb
    cases j with
    | zero => omega
    | succ j =>
      simp at hj
      cases i with
      | zero =>
        simp at hi; subst hi
        have := pairsB_at os (k + 1) hb.1 j oj hj
        rwa [show k + 1 + j = k + (j + 1) by omega] at this
      | succ i =>
        simp at hi
        have := ih (k + 1) hb.2 i j oi oj (by omega) hi hj
        rwa [show k + 1 + i = k + (i + 1) by omega, show k + 1 + j = k + (j + 1) by omega] at this

theorem tailB_at {as : List (List Nat)} : ∀ (n i : Nat), tailB as i n = true → ∀ q, i ≤ q → q < i + n → ∀ j < q, j ∈ as.getD q [] := by
  intro n
  induction n with
  | zero => intro i _ q h1 h2; omega
  | succ n ih =>
    intro i hb q h1 h2 j hj
    simp only [tailB, Bool.and_eq_true, List.all_eq_true, List.mem_range] at hb
    by_cases hq : q = i
    · subst hq; exact memB_iff.1 (hb.1 j hj)
    · exact ih (i + 1) hb.2 q (by omega) (by omega) j hj
end logic
end Go.Sx
