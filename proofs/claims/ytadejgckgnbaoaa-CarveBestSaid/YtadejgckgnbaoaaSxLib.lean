/- Words and small laws for the printed functions. -/
import Derived.Test.YtadejgckgnbaoaaSxTab
import Derived.KernelRfl
namespace Go.Sx
open Go
set_option linter.unusedSimpArgs false
set_option linter.unusedVariables false

abbrev w64 (x : Int) : Int := IntKind.i64.wrap x

theorem ntrue {b : Bool} (h : b = false) : ¬ (b = true) := by subst h; simp

/-- Element i of a list, if it is there. -/
def idx {α : Type} (xs : List α) (i : Int) : Option α := if 0 ≤ i then xs[i.toNat]? else none
/-- A part of a list. -/
def sub {α : Type} (xs : List α) (lo hi : Int) : Option (List α) := if 0 ≤ lo ∧ lo ≤ hi ∧ hi ≤ xs.length then some ((xs.drop lo.toNat).take (hi - lo).toNat) else none
/-- Where the guard says no: anything. -/
def optG {α : Type} [Inhabited α] (g : Bool) (x : Option α) : Option α := if g then x else some default
def need (p : Prop) [Decidable p] : Option Unit := if p then some () else none

theorem optG_of {α : Type} [Inhabited α] {g : Bool} {x : Option α} {v : α} (h : optG g x = some v) : g = true → x = some v := by
  intro hg; subst hg; exact h

theorem need_of {p : Prop} [Decidable p] {u : Unit} (h : need p = some u) : p := by
  unfold need at h
  split at h
  · assumption
  · simp at h

theorem idx_some {α : Type} {xs : List α} {i : Int} {x : α} (h : idx xs i = some x) : 0 ≤ i ∧ xs[i.toNat]? = some x := by
  unfold idx at h
  split at h
  · exact ⟨by assumption, h⟩
  · simp at h

theorem idx_bounds {α : Type} {xs : List α} {i : Int} {x : α} (h : idx xs i = some x) : 0 ≤ i ∧ i < (xs.length : Int) := by
  obtain ⟨h0, h1⟩ := idx_some h
  have := (List.getElem?_eq_some_iff.1 h1).1
  omega

theorem flatMap_drop {α β : Type} (f : α → List β) (e : Nat) (hf : ∀ x, (f x).length = e) : ∀ (xs : List α) (k : Nat), (xs.flatMap f).drop (k * e) = (xs.drop k).flatMap f := by
  intro xs
  induction xs with
  | nil => intro k; simp
  | cons x xs ih =>
    intro k
    cases k with
    | zero => simp
    | succ k =>
      rw [List.flatMap_cons, List.drop_succ_cons, ← ih k, Nat.add_mul, Nat.one_mul, Nat.add_comm, ← List.drop_drop]
      congr 1
      rw [List.drop_left' (hf x)]

theorem flatMap_take {α β : Type} (f : α → List β) (e : Nat) (hf : ∀ x, (f x).length = e) : ∀ (xs : List α) (k : Nat), (xs.flatMap f).take (k * e) = (xs.take k).flatMap f := by
  intro xs
  induction xs with
  | nil => intro k; simp
  | cons x xs ih =>
    intro k
    cases k with
    | zero => simp
    | succ k =>
      rw [List.flatMap_cons, List.take_succ_cons, List.flatMap_cons, ← ih k, Nat.add_mul, Nat.one_mul, Nat.add_comm, List.take_append, hf x]
      rw [List.take_of_length_le (by rw [hf x]; omega)]
      congr 2
      omega

theorem flatMap_len {α β : Type} (f : α → List β) (e : Nat) (hf : ∀ x, (f x).length = e) (xs : List α) : (xs.flatMap f).length = xs.length * e := by
  induction xs with
  | nil => simp
  | cons x xs ih => rw [List.flatMap_cons, List.length_append, ih, hf x, List.length_cons, Nat.add_mul, Nat.one_mul, Nat.add_comm]

theorem flatMap_at {α β : Type} {f : α → List β} {e : Nat} (hf : ∀ x, (f x).length = e) {xs : List α} {i : Nat} {x : α} (h : xs[i]? = some x) : ((xs.flatMap f).drop (i * e)).take e = f x := by
  rw [flatMap_drop f e hf]
  have hlt := (List.getElem?_eq_some_iff.1 h).1
  rw [List.drop_eq_getElem_cons hlt]
  have : xs[i] = x := by have := (List.getElem?_eq_some_iff.1 h).2; exact this
  rw [this, List.flatMap_cons, List.take_left' (hf x)]

theorem idxOk {α : Type} {f : α → List D} {e : Nat} (hf : ∀ x, (f x).length = e) {xs : List α} {i : Int} {x : α} (h : idx xs i = some x) : IdxOk (xs.flatMap f) e xs.length i (f x) := by
  obtain ⟨h0, h1⟩ := idx_some h
  exact ⟨h0, (idx_bounds h).2, flatMap_at hf h1, hf x⟩

theorem map_drop_take {ds : List D} {off s : Nat} {es : List D} (h : (ds.drop off).take s = es) : ((ds.map V.d).drop off).take s = es.map .d := by
  rw [← h, List.map_take, List.map_drop]

/-- A part of an element of a row of one's own. -/
theorem loadOk {α : Type} {f : α → List D} {e : Nat} (hf : ∀ x, (f x).length = e) {xs : List α} {i : Int} {x : α} (h : idx xs i = some x) {j s off : Nat} {es : List D} (ho : off = 0 + i.toNat * e + j) (hj : ((f x).drop j).take s = es) (hl : es.length = s) (hs : j + s ≤ e) :
    LoadOk ((xs.flatMap f).map .d) off s (es.map .d) := by
  obtain ⟨h0, h1⟩ := idx_some h
  refine ⟨?_, by simpa using hl⟩
  refine map_drop_take ?_
  have hat := flatMap_at hf h1
  rw [ho, Nat.zero_add, ← List.drop_drop]
  have : ((xs.flatMap f).drop (i.toNat * e)) = f x ++ ((xs.flatMap f).drop (i.toNat * e)).drop e := by
    rw [← hat, List.take_append_drop]
  rw [this, List.drop_append_of_le_length (by rw [hf x]; omega), List.take_append_of_le_length (by rw [List.length_drop, hf x]; omega)]
  exact hj

theorem putAt_map {α β : Type} (g : α → β) (us : List α) : ∀ (vs : List α) (n : Nat), putAt (vs.map g) n (us.map g) = (putAt vs n us).map g := by
  induction us with
  | nil => intro vs n; rfl
  | cons u us ih => intro vs n; simp only [List.map_cons, putAt]; rw [← List.map_set, ih]

/-- An element of a row of one's own is written, or a part of it. -/
theorem storeOk {α : Type} {f : α → List D} {e : Nat} (hf : ∀ x, (f x).length = e) {xs : List α} {i : Int} {x y : α} (h : idx xs i = some x) {j off : Nat} {us : List D} (ho : off = 0 + i.toNat * e + j) (hj : putAt (f x) j us = f y) (hs : j + us.length ≤ e) :
    StoreOk ((xs.flatMap f).map .d) off (us.map .d) (((xs.set i.toNat y).flatMap f).map .d) := by
  obtain ⟨h0, h1⟩ := idx_some h
  have hlt := (List.getElem?_eq_some_iff.1 h1).1
  have hsp : xs.flatMap f = (xs.take i.toNat).flatMap f ++ (f x ++ (xs.drop (i.toNat + 1)).flatMap f) := by
    have hx : xs[i.toNat] = x := (List.getElem?_eq_some_iff.1 h1).2
    have e1 : xs = xs.take i.toNat ++ (x :: xs.drop (i.toNat + 1)) := by
      rw [← hx, ← List.drop_eq_getElem_cons hlt, List.take_append_drop]
    conv => lhs; rw [e1]
    rw [List.flatMap_append, List.flatMap_cons]
  have hst : (xs.set i.toNat y).flatMap f = (xs.take i.toNat).flatMap f ++ (f y ++ (xs.drop (i.toNat + 1)).flatMap f) := by
    rw [List.set_eq_take_append_cons_drop, if_pos hlt, List.flatMap_append, List.flatMap_cons]
  have hlen : ((xs.take i.toNat).flatMap f).length = i.toNat * e := by rw [flatMap_len f e hf, List.length_take, Nat.min_eq_left (by omega)]
  refine ⟨?_, ?_⟩
  · rw [List.length_map, List.length_map, flatMap_len f e hf, ho]
    have : i.toNat * e + e ≤ xs.length * e := by rw [← Nat.succ_mul]; exact Nat.mul_le_mul_right _ hlt
    omega
  · rw [putAt_map]
    congr 1
    have hle : off + us.length ≤ (xs.flatMap f).length := by
      rw [flatMap_len f e hf, ho]
      have : i.toNat * e + e ≤ xs.length * e := by rw [← Nat.succ_mul]; exact Nat.mul_le_mul_right _ hlt
      omega
    rw [putAt_eq _ _ _ hle, hsp, hst, ← hj, putAt_eq _ _ _ (by rw [hf x]; exact hs), ho, Nat.zero_add]
    rw [List.take_append, hlen, List.take_of_length_le (by omega), show i.toNat * e + j - i.toNat * e = j by omega, List.take_append_of_le_length (by rw [hf x]; omega)]
    rw [List.drop_append, hlen, List.drop_of_length_le (by omega), show i.toNat * e + j + us.length - i.toNat * e = j + us.length by omega, List.drop_append_of_le_length (by rw [hf x]; omega)]
    simp [List.append_assoc]

theorem sliceOk {α : Type} {f : α → List D} {e : Nat} (hf : ∀ x, (f x).length = e) {xs ys : List α} {lo hi : Int} (h : sub xs lo hi = some ys) : SliceOk (xs.flatMap f) e xs.length lo hi ys.length (ys.flatMap f) := by
  unfold sub at h
  split at h
  · rename_i hc
    obtain ⟨h0, h1, h2⟩ := hc
    simp at h; subst h
    have hl : ((xs.drop lo.toNat).take (hi - lo).toNat).length = (hi - lo).toNat := by rw [List.length_take, List.length_drop]; omega
    refine ⟨h0, h1, h2, hl, ?_⟩
    rw [hl, flatMap_drop f e hf, flatMap_take f e hf]
  · simp at h

/-- A list is appended to. -/
theorem appendOk {α : Type} {f : α → List D} {e : Nat} (hf : ∀ x, (f x).length = e) {xs ys : List α} {bytes : Nat} (h : (xs.length + ys.length) * bytes ≤ 140737488355328 ∧ xs.length + ys.length ≤ 9223372036854775807) :
    AppendOk ((xs.flatMap f).map .d) xs.length ys.length (xs ++ ys).length e bytes (ys.flatMap f) ((xs ++ ys).flatMap f) := by
  refine ⟨by simp, ?_, flatMap_len f e hf ys, h.1, h.2, ?_⟩
  · rw [List.length_map, flatMap_len f e hf]
  · rw [List.flatMap_append, List.map_append]

theorem makeOk {α : Type} {f : α → List D} {z : α} {n : Int} {bytes : Nat} {zero : List Value} (hz : f z = zero.map D.v) (h : 0 ≤ n ∧ n * bytes ≤ 140737488355328 ∧ n ≤ 9223372036854775807) :
    MakeOk n n (List.replicate n.toNat z).length bytes zero ((List.replicate n.toNat z).flatMap f) := by
  refine ⟨rfl, by simp, h.1, h.2.1, h.2.2, ?_⟩
  rw [List.flatMap_def, List.map_replicate, hz]

theorem lentOk {α : Type} {f : α → List D} {e : Nat} (hf : ∀ x, (f x).length = e) {xs : List α} {H : List O} {id : Nat} (h : H[id]? = some (.data (xs.flatMap f))) : argOk H (.sl e id 0 xs.length) (.list false e xs.length (xs.flatMap f)) := by
  refine ⟨rfl, rfl, flatMap_len f e hf xs, (xs.flatMap f).map .d, by simp [rowAt, h, O.row], ?_, ?_⟩
  · rw [List.drop_zero, List.take_of_length_le]
    rw [List.length_map, flatMap_len f e hf]; exact Nat.le_refl _
  · rw [List.length_map, flatMap_len f e hf]; omega

/-- How a piece ends: by a return with r, or at its end with s. -/
def OutQ {ρ σ : Type} (TR : ρ → St) (HR : ρ → List O) (TS : σ → St) (HS : σ → List O) (o : ρ ⊕ σ) : Exit → St → List O → Prop := fun e T H =>
  match o with
  | .inl r => e = .ret ∧ T = TR r ∧ H = HR r
  | .inr s => e = .normal ∧ T = TS s ∧ H = HS s
theorem OutQ.ret {ρ σ : Type} {TR : ρ → St} {HR : ρ → List O} {TS : σ → St} {HS : σ → List O} {r : ρ} : OutQ TR HR TS HS (.inl r) .ret (TR r) (HR r) := ⟨rfl, rfl, rfl⟩
theorem OutQ.norm {ρ σ : Type} {TR : ρ → St} {HR : ρ → List O} {TS : σ → St} {HS : σ → List O} {s : σ} : OutQ TR HR TS HS (.inr s) .normal (TS s) (HS s) := ⟨rfl, rfl, rfl⟩
theorem Wk.mk {Q : Exit → St → List O → Prop} {e : Exit} {T T' : St} {H H' : List O} {fl : Nat} (n : Nat) (ks : List Nat) (hfl : Nat.ble fl n = true) (hT : wkT n ks T = T') (hH : wkH n H = H') (h : Q e T' H') : Wk fl Q e T H := ⟨n, ks, T', H', hfl, hT, hH, h⟩
theorem main_ret {tt : Tab} {rs : List ResultVar} {r : V} {T : St} {H : List O} (h : (resL tt T H rs).map resV = some r) : retQ tt rs r .ret T H := ⟨.inl rfl, h⟩
theorem main_retH {tt : Tab} {rs : List ResultVar} {r : V} {T : St} {H H' : List O} (h : (resL tt T H rs).map resV = some r) (hH : H = H') : retH tt rs r H' .ret T H := ⟨.inl rfl, h, hH⟩

/-- What follows a piece. -/
def outK {ρ σ α : Type} (o : ρ ⊕ σ) (f : ρ → Option α) (g : σ → Option α) : Option α :=
  match o with
  | .inl r => f r
  | .inr s => g s
theorem outK_inl {ρ σ α : Type} (r : ρ) (f : ρ → Option α) (g : σ → Option α) : outK (.inl r) f g = f r := rfl
theorem outK_inr {ρ σ α : Type} (s : σ) (f : ρ → Option α) (g : σ → Option α) : outK (.inr s) f g = g s := rfl

section loops
variable {P : Program} {rd : Bool} {N fl : Nat} {Q : Exit → St → List O → Prop}
theorem awpN_ind {σ ρ : Type} {body : Code} (F : Nat → σ → Option ρ) (o : ρ) (Tc : σ → St) (Hc : σ → List O) (h0 : ∀ c, F 0 c = none)
    (step : ∀ n c, F (n + 1) c = some o → (∀ c', F n c' = some o → awpN P rd N fl body Q n (Tc c') (Hc c')) → awp P rd N fl body (thenQ (awpN P rd N fl body Q n) Q) (Tc c) (Hc c)) :
    ∀ n c, F n c = some o → awpN P rd N fl body Q n (Tc c) (Hc c) := by
  intro n
  induction n with
  | zero => intro c h; rw [h0 c] at h; simp at h
  | succ n ih => intro c h; exact awpN_succ (step n c h fun c' h' => ih c' h')

theorem awp_cut {x y : Code} {T : St} {H : List O} (Q1 : Exit → St → List O → Prop) (h1 : awp P rd N fl x Q1 T H) (h2 : ∀ e T H, Q1 e T H → thenQ (awp P rd N fl y Q) Q e T H) : awp P rd N fl (.seq x y) Q T H := awp_seq (awp_mono h1 h2)
theorem awp_cut1 {x : Code} {T : St} {H : List O} (Q1 : Exit → St → List O → Prop) (h1 : awp P rd N fl x Q1 T H) (h2 : ∀ e T H, Q1 e T H → Q e T H) : awp P rd N fl x Q T H := awp_mono h1 h2
theorem awp_eq {c : Code} {T T' : St} {H H' : List O} (hT : T = T') (hH : H = H') (h : awp P rd N fl c Q T' H') : awp P rd N fl c Q T H := by subst hT; subst hH; exact h
/-- A nil slice read as a list. -/
theorem awp_nilL {c : Code} {T : St} {H : List O} (k e : Nat) (T' : St) (hk : T.lookup k = some (.d (.v (.slice none 0 0)))) (hT' : putT (some k) (.d (.list false e 0 [])) T = T') (h : awp P rd N fl c Q T' H) : awp P rd N fl c Q T H := by
  subst hT'
  intro ro hro Γ a w hm hi
  obtain ⟨bs, Z, hW, hI⟩ := hi
  refine h ro hro Γ a w hm ⟨bs, Z, hW, ?_⟩
  have hr := hI.rel k _ (mem_of_lookup hk)
  refine ⟨hI.size, hI.defers, fun i x hx => ?_⟩
  simp only [putT, List.mem_cons, Prod.mk.injEq, List.mem_filter] at hx
  rcases hx with ⟨rfl, rfl⟩ | ⟨hx, _⟩
  · refine ⟨hr.1, ?_⟩
    rw [hr.2.lit]
    exact .d _ _ (.list0 _ _ _ _ (by simp))
  · exact hI.rel i x hx
end loops
end Go.Sx
