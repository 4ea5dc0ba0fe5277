/- The evaluator's single operations are sound over the model. -/
import Derived.Test.YtadejgckgnbaoaaSxEval
import Derived.Laws.Cells
import Derived.Laws.CopyRow
import Derived.Laws.Entries
namespace Go.Sx
open Go

section lists
variable {bs : Bs} {Z : Nat → Prop} {w : World}

def RVL (bs : Bs) (Z : Nat → Prop) (w : World) (vs : List V) (cs : List Value) : Prop :=
  cs.length = vs.length ∧ ∀ (j : Nat) x c, vs[j]? = some x → cs[j]? = some c → one c ∧ RV bs Z w x c

def RDL (Z : Nat → Prop) (w : World) (vs : List D) (cs : List Value) : Prop :=
  cs.length = vs.length ∧ ∀ (j : Nat) x c, vs[j]? = some x → cs[j]? = some c → one c ∧ RD Z w x c

theorem RDL.toV {ds : List D} {cs : List Value} (h : RDL Z w ds cs) : RVL bs Z w (ds.map .d) cs := by
  refine ⟨by simpa using h.1, fun j x c hx hc => ?_⟩
  rw [List.getElem?_map] at hx
  cases hd : ds[j]? with
  | none => simp [hd] at hx
  | some y =>
    simp [hd] at hx; subst hx
    have := h.2 j y c hd hc
    exact ⟨this.1, .d _ _ this.2⟩

theorem RVL.toD {ds : List D} {cs : List Value} (h : RVL bs Z w (ds.map .d) cs) : RDL Z w ds cs := by
  refine ⟨by simpa using h.1, fun j x c hx hc => ?_⟩
  have := h.2 j (.d x) c (by simp [hx]) hc
  exact ⟨this.1, by cases this.2 with | d _ _ h => exact h⟩

theorem RVL.take {vs : List V} {cs : List Value} (h : RVL bs Z w vs cs) (n : Nat) : RVL bs Z w (vs.take n) (cs.take n) := by
  refine ⟨by simp [h.1], fun j x c hx hc => ?_⟩
  rw [List.getElem?_take] at hx hc
  split at hx <;> simp_all
  exact h.2 j x c hx hc

theorem RVL.drop {vs : List V} {cs : List Value} (h : RVL bs Z w vs cs) (n : Nat) : RVL bs Z w (vs.drop n) (cs.drop n) := by
  refine ⟨by simp [h.1], fun j x c hx hc => ?_⟩
  rw [List.getElem?_drop] at hx hc
  exact h.2 _ x c hx hc

theorem RVL.append {vs us : List V} {cs ds : List Value} (h : RVL bs Z w vs cs) (h' : RVL bs Z w us ds) : RVL bs Z w (vs ++ us) (cs ++ ds) := by
  refine ⟨by simp [h.1, h'.1], fun j x c hx hc => ?_⟩
  rw [List.getElem?_append] at hx hc
  rw [h.1] at hc
  split at hx
  · rename_i hlt; rw [if_pos hlt] at hc; exact h.2 j x c hx hc
  · rename_i hlt; rw [if_neg hlt] at hc; exact h'.2 _ x c hx hc

theorem RVL.nil : RVL bs Z w [] [] := ⟨rfl, fun j x c h => by simp at h⟩

theorem RVL.cons {v : V} {vs : List V} {c : Value} {cs : List Value} (h1 : one c) (h : RV bs Z w v c) (h' : RVL bs Z w vs cs) : RVL bs Z w (v :: vs) (c :: cs) := by
  refine ⟨by simp [h'.1], fun j x k hx hc => ?_⟩
  cases j with
  | zero => simp at hx hc; subst hx; subst hc; exact ⟨h1, h⟩
  | succ j => simp at hx hc; exact h'.2 j x k hx hc

theorem RVL.set {vs : List V} {cs : List Value} {v : V} {c : Value} (h : RVL bs Z w vs cs) (n : Nat) (h1 : one c) (hv : RV bs Z w v c) : RVL bs Z w (vs.set n v) (cs.set n c) := by
  refine ⟨by simp [h.1], fun j x k hx hc => ?_⟩
  rw [List.getElem?_set] at hx hc
  split at hx
  · rename_i e
    rw [if_pos e] at hc
    split at hx <;> split at hc <;> simp at hx hc
    subst hx; subst hc; exact ⟨h1, hv⟩
  · rename_i e; rw [if_neg e] at hc; exact h.2 j x k hx hc

theorem putAt_length {α : Type} (us : List α) : ∀ (vs : List α) (n : Nat), (putAt vs n us).length = vs.length := by
  induction us with
  | nil => intro vs n; rfl
  | cons u us ih => intro vs n; simp [putAt, ih]

theorem putAt_eq {α : Type} (us : List α) : ∀ (vs : List α) (n : Nat), n + us.length ≤ vs.length → putAt vs n us = vs.take n ++ us ++ vs.drop (n + us.length) := by
  induction us with
  | nil => intro vs n h; simp [putAt]
  | cons u us ih =>
    intro vs n h
    simp at h
    rw [putAt, ih _ _ (by simp; omega)]
    apply List.ext_getElem?
    intro j
    simp only [List.append_assoc, List.getElem?_append, List.length_take, List.length_set, List.getElem?_take, List.getElem?_set, List.getElem?_drop, List.length_cons, List.getElem?_cons]
    rw [Nat.min_eq_left (by omega), Nat.min_eq_left (by omega)]
    rcases Nat.lt_trichotomy j n with hj | hj | hj
    · simp [show j < n + 1 by omega, show ¬ n = j by omega, hj]
    · subst hj; simp [show j < vs.length by omega]
    · simp only [show ¬ j < n + 1 by omega, show ¬ j < n by omega, if_false, show ¬ (j - n = 0) by omega]
      rw [show j - (n + 1) = j - n - 1 by omega]
      by_cases h2 : j - n - 1 < us.length
      · simp [h2, show j - n < us.length + 1 by omega]
      · simp only [h2, if_false, show ¬ (j - n < us.length + 1) by omega]
        rw [if_neg (by omega)]
        congr 1
        omega

theorem RVL.putAt {us : List V} : ∀ {vs : List V} {cs ds : List Value} (n : Nat), RVL bs Z w vs cs → RVL bs Z w us ds → RVL bs Z w (putAt vs n us) (Sx.putAt cs n ds) := by
  induction us with
  | nil =>
    intro vs cs ds n h h'
    have : ds = [] := List.eq_nil_of_length_eq_zero h'.1
    subst this
    exact h
  | cons u us ih =>
    intro vs cs ds n h h'
    cases ds with
    | nil => have := h'.1; simp at this
    | cons d ds =>
      have h0 := h'.2 0 u d rfl rfl
      have ht : RVL bs Z w us ds := ⟨by have := h'.1; simpa using this, fun j x c hx hc => h'.2 (j + 1) x c (by simpa using hx) (by simpa using hc)⟩
      exact ih (n + 1) (h.set n h0.1 h0.2) ht

theorem RV.one {v : V} {c : Value} (h : RV bs Z w v c) {vs : List V} (hv : v.cells = some vs) : RVL bs Z w vs c.cells.toList := by
  cases h with
  | top c => simp [V.cells] at hv
  | when b x c h h' => simp [V.cells] at hv
  | tup us cs f hl hf hr => simp [V.cells] at hv
  | agg cells cs f hl hf h1 hr =>
    simp [V.cells] at hv; subst hv
    refine ⟨by simpa [Value.cells] using hl, fun j x c hx hc => ?_⟩
    have hj : j < cells.length := (List.getElem?_eq_some_iff.1 hx).1
    simp [Value.cells] at hc
    have := hf j (by omega)
    rw [hc] at this; simp at this; subst this
    exact ⟨h1 j hj, hr j x hx⟩
  | d x c h =>
    cases h with
    | agg cells cs f hl hf h1 hr =>
      simp [V.cells] at hv; subst hv
      refine RDL.toV ⟨by simpa [Value.cells] using hl, fun j x c hx hc => ?_⟩
      have hj : j < cells.length := (List.getElem?_eq_some_iff.1 hx).1
      simp [Value.cells] at hc
      have := hf j (by omega)
      rw [hc] at this; simp at this; subst this
      exact ⟨h1 j hj, hr j x hx⟩
    | any c h1 =>
      simp [V.cells] at hv; subst hv
      cases c <;> simp [Sx.one, Value.oneCell'] at h1 <;> exact RVL.cons rfl (.d _ _ (.any _ rfl)) RVL.nil
    | v c h1 =>
      simp [V.cells] at hv; subst hv
      cases c <;> simp [Sx.one, Value.oneCell'] at h1 <;> exact RVL.cons rfl (.d _ _ (.v _ rfl)) RVL.nil
    | list0 t e a cap h => simp [V.cells] at hv; subst hv; exact RVL.cons rfl (.d _ _ (.list0 t e a cap h)) RVL.nil
    | list t e n cells ad cap f hn hl hz hcap ht hc h1 hr =>
      simp [V.cells] at hv; subst hv; exact RVL.cons rfl (.d _ _ (.list t e n cells ad cap f hn hl hz hcap ht hc h1 hr)) RVL.nil
  | ref id off b k h => simp [V.cells] at hv; subst hv; exact RVL.cons rfl (.ref id off b k h) RVL.nil
  | sl e id off len b k cap h hc hk hm => simp [V.cells] at hv; subst hv; exact RVL.cons rfl (.sl e id off len b k cap h hc hk hm) RVL.nil
  | sl0 e id h => simp [V.cells] at hv; subst hv; exact RVL.cons rfl (.sl0 e id h) RVL.nil
  | rop cells ad f hz hc h1 hr => simp [V.cells] at hv; subst hv; exact RVL.cons rfl (.rop cells ad f hz hc h1 hr) RVL.nil
  | mp id b k h => simp [V.cells] at hv; subst hv; exact RVL.cons rfl (.mp id b k h) RVL.nil
  | yld id b k h => simp [V.cells] at hv; subst hv; exact RVL.cons rfl (.yld id b k h) RVL.nil
  | fn g first captured fs cs f k hl hl' hf hk hr hr' => simp [V.cells] at hv; subst hv; exact RVL.cons rfl (.fn g first captured fs cs f k hl hl' hf hk hr hr') RVL.nil

theorem allD_map : ∀ {vs : List V} {ds : List D}, allD vs = some ds → vs = ds.map .d := by
  intro vs
  induction vs with
  | nil => intro ds h; simp [allD] at h; subst h; rfl
  | cons v vs ih =>
    intro ds h
    cases v <;> simp [allD] at h
    obtain ⟨a, ha, rfl⟩ := h
    simp [ih ha]

theorem RD.ofL {ds : List D} {cs : List Value} (h : RDL Z w ds cs) : RD Z w (.agg ds) (.agg cs.toArray) := by
  refine .agg ds cs.toArray (fun j => cs.getD j undef) (by simpa using h.1) (fun j hj => ?_) (fun j hj => ?_) (fun j x hx => ?_)
  · simp at hj; simp [hj, List.getD]
  · have hj' : j < cs.length := by rw [h.1]; exact hj
    have := (h.2 j ds[j] cs[j] (List.getElem?_eq_getElem hj) (List.getElem?_eq_getElem hj')).1
    simpa [List.getD, hj'] using this
  · have hj : j < ds.length := (List.getElem?_eq_some_iff.1 hx).1
    have hj' : j < cs.length := by rw [h.1]; exact hj
    have := (h.2 j x cs[j] hx (List.getElem?_eq_getElem hj')).2
    simpa [List.getD, hj'] using this

theorem RV.ofL {vs : List V} {cs : List Value} (h : RVL bs Z w vs cs) : RV bs Z w (.agg vs) (.agg cs.toArray) := by
  refine .agg vs cs.toArray (fun j => cs.getD j undef) (by simpa using h.1) (fun j hj => ?_) (fun j hj => ?_) (fun j x hx => ?_)
  · simp at hj; simp [hj, List.getD]
  · have hj' : j < cs.length := by rw [h.1]; exact hj
    have := (h.2 j vs[j] cs[j] (List.getElem?_eq_getElem hj) (List.getElem?_eq_getElem hj')).1
    simpa [List.getD, hj'] using this
  · have hj : j < vs.length := (List.getElem?_eq_some_iff.1 hx).1
    have hj' : j < cs.length := by rw [h.1]; exact hj
    have := (h.2 j x cs[j] hx (List.getElem?_eq_getElem hj')).2
    simpa [List.getD, hj'] using this

theorem RV.mkAgg {vs : List V} {cs : List Value} (h : RVL bs Z w vs cs) : RV bs Z w (mkAgg vs) (.agg cs.toArray) := by
  unfold Sx.mkAgg
  split
  · rename_i ds he
    have := allD_map he
    subst this
    exact .d _ _ (RD.ofL h.toD)
  · exact RV.ofL h

/-- The value of those cells. -/
def valOf (agg : Bool) (cs : List Value) : Value := if agg then .agg cs.toArray else cs.getD 0 undef

theorem RV.mkVal {agg : Bool} {vs : List V} {cs : List Value} {v : V} (h : RVL bs Z w vs cs) (hv : mkVal agg vs = some v) : RV bs Z w v (valOf agg cs) := by
  unfold Sx.mkVal at hv
  cases agg with
  | true => simp at hv; subst hv; simpa [valOf] using RV.mkAgg h
  | false =>
    simp at hv
    split at hv <;> simp at hv
    subst hv
    rename_i x
    match cs, h with
    | [c], h => exact (h.2 0 x c rfl rfl).2
    | [], h => have := h.1; simp at this
    | _ :: _ :: _, h => have := h.1; simp at this

theorem RD.mkD {agg : Bool} {ds : List D} {cs : List Value} {x : D} (h : RDL Z w ds cs) (hv : mkD agg ds = some x) : RD Z w x (valOf agg cs) := by
  unfold Sx.mkD at hv
  cases agg with
  | true => simp at hv; subst hv; simpa [valOf] using RD.ofL h
  | false =>
    simp at hv
    split at hv <;> simp at hv
    subst hv
    rename_i x
    match cs, h with
    | [c], h => exact (h.2 0 x c rfl rfl).2
    | [], h => have := h.1; simp at this
    | _ :: _ :: _, h => have := h.1; simp at this

theorem takeN_eq {α : Type} : ∀ {n : Nat} {xs ys : List α}, takeN n xs = some ys → xs.take n = ys ∧ ys.length = n := by
  intro n
  induction n with
  | zero => intro xs ys h; cases xs <;> simp [takeN] at h <;> subst h <;> simp
  | succ n ih =>
    intro xs ys h
    cases xs with
    | nil => simp [takeN] at h
    | cons x xs =>
      simp [takeN] at h
      obtain ⟨a, ha, rfl⟩ := h
      have := ih ha
      simp [this.1, this.2]
end lists
end Go.Sx
