/- Weaker knowledge of data; parts of rows as data; typed maps; pieces of code. -/
import Derived.Test.YtadejgckgnbaoaaSxMore2
import Derived.Test.YtadejgckgnbaoaaSxLib
namespace Go.Sx
open Go
set_option linter.unusedSimpArgs false
set_option linter.unusedVariables false

section
variable {P : Program} {rd : Bool} {N fl : Nat} {Q : Exit → St → List O → Prop} {T : St} {H : List O}
theorem awp_laxT {c : Code} (k : Nat) (x y : D) (T' : St) (hk : T.lookup k = some (.d x)) (hle : LeD x y) (hT' : putT (some k) (.d y) T = T') (h : awp P rd N fl c Q T' H) : awp P rd N fl c Q T H := by
  subst hT'
  intro ro hro Γ a w hm hi
  obtain ⟨bs, Z, hW, hI⟩ := hi
  refine h ro hro Γ a w hm ⟨bs, Z, hW, ?_⟩
  have hr := hI.rel k _ (mem_of_lookup hk)
  refine ⟨hI.size, hI.defers, fun i v hx => ?_⟩
  simp only [putT, List.mem_cons, Prod.mk.injEq, List.mem_filter] at hx
  rcases hx with ⟨rfl, rfl⟩ | ⟨hx, _⟩
  · refine ⟨hr.1, ?_⟩
    have hr2 := hr.2
    generalize a.tmps.getD i undef = c at hr2 ⊢
    cases hr2 with | d _ _ h => exact .d _ _ (h.le hle)
  · exact hI.rel i v hx

/-- An object may be told otherwise. -/
theorem InvW.setO {Γ : Ctx} {bs : Bs} {Z : Nat → Prop} {w : World} (hW : InvW Γ H bs Z w) {k : Nat} {o o' : O} (hk : H[k]? = some o) (h : ∀ q, okO bs Z w o q → okO bs Z w o' q) (hd : o'.isData = o.isData) : InvW Γ (H.set k o') bs Z w := by
  have hklt := (List.getElem?_eq_some_iff.1 hk).1
  constructor
  · simpa using hW.lenH
  · intro i p q hp hq
    rw [List.getElem?_set] at hp
    split at hp
    · rename_i he
      subst he
      simp at hp; subst hp
      exact h q (hW.objs _ _ q hk hq)
    · exact hW.objs i p q hp hq
  · exact hW.nodup
  · exact hW.disj
  · exact hW.lt
  · exact hW.zlt
  · exact hW.z0
  · exact hW.fresh
  · exact hW.zfresh
  · exact hW.size
  · exact hW.frame
  · exact hW.os
  · exact hW.tape
  · exact hW.output
  · intro i p hp
    obtain ⟨h1, o2, h2, h3⟩ := hW.pin i p hp
    refine ⟨h1, ?_⟩
    rw [List.getElem?_set]
    split
    · rename_i he
      subst he
      rw [hk] at h2; simp at h2; subst h2
      exact ⟨o', rfl, hd.trans h3⟩
    · exact ⟨o2, h2, h3⟩
theorem awp_setO {c : Code} (k : Nat) (o o' : O) (H' : List O) (hk : H[k]? = some o) (hO : ∀ bs Z w q, okO bs Z w o q → okO bs Z w o' q) (hd : o'.isData = o.isData) (hH : H.set k o' = H') (h : awp P rd N fl c Q T H') : awp P rd N fl c Q T H := by
  subst hH
  intro ro hro Γ a w hm hi
  obtain ⟨bs, Z, hW, hI⟩ := hi
  exact h ro hro Γ a w hm ⟨bs, Z, hW.setO hk (hO bs Z w) hd, hI⟩
theorem awp_laxC {c : Code} (k j : Nat) (x y : D) (xs : List V) (H' : List O) (hk : H[k]? = some (.cells xs)) (hj : xs[j]? = some (.d x)) (hle : LeD x y) (hH : H.set k (.cells (xs.set j (.d y))) = H')
    (h : awp P rd N fl c Q T H') : awp P rd N fl c Q T H := by
  refine awp_setO k (.cells xs) (.cells (xs.set j (.d y))) H' hk ?_ rfl hH h
  intro bs Z w q hq
  cases q with
  | none => have hq' : xs = [] := hq; subst hq'; simp at hj
  | some p =>
    obtain ⟨b, n⟩ := p
    obtain ⟨cs, t, h1, h2, h3, h4⟩ := hq
    refine ⟨cs, t, h1, h2, by simpa using h3, fun i v hv => ?_⟩
    rw [List.getElem?_set] at hv
    split at hv
    · rename_i he
      subst he
      split at hv
      · simp at hv; subst hv
        obtain ⟨c, g1, g2, g3⟩ := h4 _ _ hj
        refine ⟨c, g1, g2, ?_⟩
        cases g3 with | d _ _ h => exact .d _ _ (h.le hle)
      · simp at hv
    · exact h4 i v hv

/-- The first part of a row of one's own becomes data. -/
theorem awp_part {c : Code} (k id e n m : Nat) (ds ds' : List D) (T' : St) (H' : List O) (hk : T.lookup k = some (.sl e id 0 n)) (hid : H[id]? = some (.data ds)) (hp : n = m ∧ ds' = ds.take (m * e) ∧ ds'.length = m * e)
    (hT' : putT (some k) (.d (.list false e m ds')) (onlyT (· != id) T) = T') (hH' : (onlyH (· != id) H).set id (.data []) = H') (h : awp P rd N fl c Q T' H') : awp P rd N fl c Q T H := by
  obtain ⟨rfl, h2, h3⟩ := hp
  refine awp_setO id (.data ds) (.data ds') (H.set id (.data ds')) hid ?_ rfl rfl ?_
  · subst h2
    intro bs Z w q hq
    cases q with
    | none => have hq' : ds = [] := hq; subst hq'; exact (by simp : List.take (n * e) ([] : List D) = [])
    | some p =>
      obtain ⟨b, k⟩ := p
      obtain ⟨cs, t, g1, g2, g3, g4⟩ := hq
      refine ⟨cs, t, g1, g2, ?_, fun i v hv => ?_⟩
      · exact Nat.le_trans (by simp; omega) g3
      · rw [List.getElem?_take] at hv
        split at hv
        · exact g4 i v hv
        · simp at hv
  · have hlt := (List.getElem?_eq_some_iff.1 hid).1
    refine awp_freeze (ps := [ds'.length = n * e]) k id ds' (.sl e id 0 n) (.d (.list false e n ds')) T' H' hk (by simp [hlt]) (by simp [V.freeze, V.fz]) h3 hT' ?_ h
    rw [← hH']
    simp only [onlyH, List.map_set, List.set_set]

theorem awpN_sel {c : Code} {m : Nat} (is ks : List Nat) (T' : St) (H' : List O) (hok : selOk is H.length fl = true) (hT : selT is ks T = T') (hH : selH is H = H') (h : awpN P rd N fl c Q m T' H') : awpN P rd N fl c Q m T H := by
  subst hT; subst hH
  simp only [selOk, Bool.and_eq_true] at hok
  exact fun ro hro Γ a w hm hi => h ro hro Γ a w hm (hi.sel is ks hok.1.1 hok.1.2 hok.2 hm)
end

theorem partOk {α : Type} {f : α → List D} {e : Nat} (hf : ∀ x, (f x).length = e) {xs ys : List α} {hi : Int} (h : sub xs 0 hi = some ys) : (hi - 0).toNat = ys.length ∧ ys.flatMap f = (xs.flatMap f).take (ys.length * e) ∧ (ys.flatMap f).length = ys.length * e := by
  obtain ⟨h1, h2, h3, h4, h5⟩ := sliceOk hf h
  refine ⟨h4.symm, ?_, flatMap_len f e hf ys⟩
  rw [h5]
  simp
theorem sub_bounds {α : Type} {xs ys : List α} {lo hi : Int} (h : sub xs lo hi = some ys) : 0 ≤ lo ∧ lo ≤ hi ∧ hi ≤ (xs.length : Int) := by
  unfold sub at h
  split at h
  · assumption
  · simp at h

/-! ### Maps as lists of pairs -/
def mget {κ ν : Type} (eq : κ → κ → Bool) (k : κ) : List (κ × ν) → Option ν
  | [] => none
  | q :: qs => if eq k q.1 then some q.2 else mget eq k qs
def mset {κ ν : Type} (eq : κ → κ → Bool) (k : κ) (v : ν) : List (κ × ν) → List (κ × ν)
  | [] => [(k, v)]
  | q :: qs => if eq k q.1 then (k, v) :: qs else q :: mset eq k v qs
section
variable {κ ν : Type} {eq : κ → κ → Bool} {fk : κ → D} {fv : ν → D}
theorem lookD_map (heq : ∀ a b, eqD (fk a) (fk b) = some (eq a b)) (k : κ) : ∀ (m : List (κ × ν)) (i : Nat), ∃ r, lookD (fk k) (m.map fun q => (fk q.1, fv q.2)) i = some r ∧ r.map (·.2) = (mget eq k m).map fv := by
  intro m
  induction m with
  | nil => intro i; exact ⟨none, rfl, rfl⟩
  | cons q qs ih =>
    intro i
    simp only [List.map_cons, lookD, heq, mget]
    cases hq : eq k q.1 with
    | true => exact ⟨some (i, fv q.2), rfl, rfl⟩
    | false => exact ih (i + 1)
theorem lookOk (heq : ∀ a b, eqD (fk a) (fk b) = some (eq a b)) {z : ν} {zd : D} (hz : zd = fv z) (k : κ) (m : List (κ × ν)) : LookOk (m.map fun q => (fk q.1, fv q.2)) (fk k) zd (fv ((mget eq k m).getD z)) (mget eq k m).isSome := by
  obtain ⟨r, h1, h2⟩ := lookD_map (fv := fv) heq k m 0
  refine ⟨r, h1, ?_, ?_⟩
  · rw [h2]; cases mget eq k m <;> rfl
  · intro hb; cases hm : mget eq k m with
    | none => exact hz.symm
    | some v => rw [hm] at hb; simp at hb
theorem setOk (heq : ∀ a b, eqD (fk a) (fk b) = some (eq a b)) (k : κ) (v : ν) : ∀ (m : List (κ × ν)), setD (fk k) (fv v) (m.map fun q => (fk q.1, fv q.2)) = some ((mset eq k v m).map fun q => (fk q.1, fv q.2)) := by
  intro m
  induction m with
  | nil => rfl
  | cons q qs ih =>
    simp only [List.map_cons, setD, heq, mset]
    cases hq : eq k q.1 with
    | true => rfl
    | false => simp [ih]
end

/-! ### Pieces of code -/
def Code.kid : Code → Nat → Code
  | .seq a _, 0 => a
  | .seq _ b, _ => b
  | .cond _ a _, 0 => a
  | .cond _ _ b, _ => b
  | .block _ a, _ => a
  | .loop a, _ => a
  | .scope a, _ => a
  | .rangeFunc _ _ a _, 0 => a
  | .rangeFunc _ _ _ b, _ => b
  | c, _ => c
def Code.at (c : Code) : List Nat → Code
  | [] => c
  | i :: is => Code.at (Code.kid c i) is
def bodyAt (f : Func) (is : List Nat) : Code := Code.at (f.body.getD .skip) is
end Go.Sx
namespace Go.Sx
theorem main_retN {tt : Tab} {rs : List ResultVar} {fl : Nat} {r : V} {T : St} {H H' : List O} (is : List Nat) (r0 : V) (h : (resL tt T H rs).map resV = some r0) (hr : r0.re (inIds is 0) = r) (hok : selOk is H.length fl = true) (hH : selH is H = H') : retS tt rs fl r H' .normal T H := ⟨.inr rfl, is, r0, h, hr, hok, hH⟩
theorem lentOkF {α : Type} {f : α → List D} {e : Nat} (hf : ∀ x, (f x).length = e) {xs : List α} {H : List O} {id : Nat} (h : H[id]? = some (.fixed (xs.flatMap f))) : argOk H (.sl e id 0 xs.length) (.list false e xs.length (xs.flatMap f)) := by
  refine ⟨rfl, rfl, flatMap_len f e hf xs, (xs.flatMap f).map .d, by simp [rowAt, h, O.row], ?_, ?_⟩
  · rw [List.drop_zero, List.take_of_length_le]
    rw [List.length_map, flatMap_len f e hf]; exact Nat.le_refl _
  · rw [List.length_map, flatMap_len f e hf]; omega
end Go.Sx
namespace Go.Sx
abbrev di (n : Int) : D := .v (.int .i64 n)
abbrev db (b : Bool) : D := .v (.bool b)
abbrev dnil : D := .v (.slice none 0 0)
theorem not_of {c : Bool} (h : c = false) : (!c) = true := by rw [h]; rfl
end Go.Sx
