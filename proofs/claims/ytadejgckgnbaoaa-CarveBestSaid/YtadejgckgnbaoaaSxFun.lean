/- Weakening, freezing, functions from data to data. -/
import Derived.Test.YtadejgckgnbaoaaSxRegion
import Derived.RangeFuncLeaves
namespace Go.Sx
open Go
set_option linter.unusedSimpArgs false
set_option linter.unusedVariables false

section rules
variable {P : Program} {tt : Tab} {rd : Bool} {N fl : Nat} {T T' : St} {H H' : List O} {ps : List Prop} {Q : Exit → St → List O → Prop} {Γ : Ctx} {a : Act} {w : World}

/-- The first n objects alone, and some slots. -/
def wkT (n : Nat) (ks : List Nat) (T : St) : St := keepT ks (onlyT (fun i => Nat.blt i n) T)
def wkH (n : Nat) (H : List O) : List O := onlyH (fun i => Nat.blt i n) (H.take n)

theorem Inv.wk (h : Inv N Γ T H a w) (n : Nat) (ks : List Nat) (hn : Γ.n0 ≤ n) : Inv N Γ (wkT n ks T) (wkH n H) a w := by
  obtain ⟨bs, Z, hW, hI⟩ := h
  have hb : ∀ (i : Nat) (o : Option (Nat × Nat)), (Nat.blt i n) = true → bs[i]? = some o → (bs.take n)[i]? = some o := by
    intro i o hi h
    rw [List.getElem?_take, if_pos (by simpa using hi)]; exact h
  have hsub : ∀ (i : Nat) (q : Option (Nat × Nat)), (bs.take n)[i]? = some q → bs[i]? = some q := by
    intro i q h
    rw [List.getElem?_take] at h
    split at h
    · exact h
    · simp at h
  refine Inv.keep ⟨bs.take n, Z, ?_, hI.only _ hb⟩ ks
  constructor
  · simp [wkH, onlyH, hW.lenH]
  · intro i o q ho hq
    simp only [wkH, onlyH, List.getElem?_map, Option.map_eq_some_iff] at ho
    obtain ⟨o', ho', rfl⟩ := ho
    rw [List.getElem?_take] at ho'
    split at ho'
    · exact (hW.objs i o' q ho' (hsub i q hq)).only _ hb
    · simp at ho'
  · intro i j b k k' hi hj; exact hW.nodup i j b k k' (hsub _ _ hi) (hsub _ _ hj)
  · intro i b k hi; exact hW.disj i b k (hsub _ _ hi)
  · intro i b k hi; exact hW.lt i b k (hsub _ _ hi)
  · exact hW.zlt
  · exact hW.z0
  · intro i b k hi; exact hW.fresh i b k (hsub _ _ hi)
  · exact hW.zfresh
  · exact hW.size
  · exact hW.frame
  · exact hW.os
  · exact hW.tape
  · exact hW.output
  · intro i p hp
    obtain ⟨h1, o, h2, h3⟩ := hW.pin i p hp
    have hi : i < n := Nat.lt_of_lt_of_le (Γ.pinlt i p hp) hn
    exact ⟨by rw [List.getElem?_take, if_pos hi]; exact h1, o.only (fun i => Nat.blt i n), by simp only [wkH, onlyH, List.getElem?_map, List.getElem?_take, if_pos hi, h2, Option.map_some], by rw [only_isData]; exact h3⟩

theorem awp_wk {c : Code} (n : Nat) (ks : List Nat) (hfl : Nat.ble fl n = true) (T' : St) (H' : List O) (hT : wkT n ks T = T') (hH : wkH n H = H') (h : awp P rd N fl c Q T' H') : awp P rd N fl c Q T H := by
  subst hT; subst hH
  exact fun ro hro Γ a w hm hi => h ro hro Γ a w hm (hi.wk n ks (Nat.le_trans hm (Nat.le_of_ble_eq_true hfl)))
theorem awpN_wk {c : Code} {m : Nat} (n : Nat) (ks : List Nat) (hfl : Nat.ble fl n = true) (T' : St) (H' : List O) (hT : wkT n ks T = T') (hH : wkH n H = H') (h : awpN P rd N fl c Q m T' H') : awpN P rd N fl c Q m T H := by
  subst hT; subst hH
  exact fun ro hro Γ a w hm hi => h ro hro Γ a w hm (hi.wk n ks (Nat.le_trans hm (Nat.le_of_ble_eq_true hfl)))

/-- A post that may be weakened first. -/
def Wk (fl : Nat) (Q : Exit → St → List O → Prop) : Exit → St → List O → Prop := fun e T H => ∃ n ks T' H', Nat.ble fl n = true ∧ wkT n ks T = T' ∧ wkH n H = H' ∧ Q e T' H'
theorem awp_wkQ {c : Code} (h : awp P rd N fl c (Wk fl Q) T H) : awp P rd N fl c Q T H := by
  intro ro hro Γ a w hm hi
  refine wpIn_mono (h ro hro Γ a w hm hi) ?_
  rintro e a' w' ⟨T', H', ⟨n, ks, T2, H2, hfl, rfl, rfl, hq⟩, hi'⟩
  exact ⟨_, _, hq, hi'.wk n ks (Nat.le_trans hm (Nat.le_of_ble_eq_true hfl))⟩

/-- A nil slice as a row of one's own. -/
theorem awp_nil {c : Code} (k e : Nat) (hk : T.lookup k = some (.d (.v (.slice none 0 0)))) (h : awp P rd N fl c Q (putT (some k) (.sl e H.length 0 0) T) (H ++ [.data []])) : awp P rd N fl c Q T H := by
  intro ro hro Γ a w hm hi
  obtain ⟨bs, Z, hW, hI⟩ := hi
  refine h ro hro Γ a w hm ⟨bs ++ [none], Z, ?_, ?_⟩
  · have hcase : ∀ (i : Nat) (q : Nat × Nat), (bs ++ [none])[i]? = some (some q) → bs[i]? = some (some q) := by
      intro i q h
      rw [List.getElem?_append] at h
      split at h
      · exact h
      · rename_i hge
        rcases Nat.eq_zero_or_pos (i - bs.length) with h0 | h0
        · rw [h0] at h; simp at h
        · rw [List.getElem?_eq_none (by simp; omega)] at h; simp at h
    constructor
    · simp [hW.lenH]
    · intro i o q ho hq
      rw [List.getElem?_append] at ho hq
      rw [← hW.lenH] at ho
      split at ho
      · rename_i hlt
        rw [if_pos hlt] at hq
        exact (hW.objs i o q ho hq).mono bs_push (fun _ h => h) (fun _ _ => rfl) (fun _ _ _ => rfl)
      · rename_i hlt
        rw [if_neg hlt] at hq
        rcases Nat.eq_zero_or_pos (i - bs.length) with h0 | h0
        · rw [h0] at ho hq
          simp at ho hq
          subst ho; subst hq; rfl
        · rw [List.getElem?_eq_none (by simp; omega)] at ho; simp at ho
    · intro i j b k k' hi hj; exact hW.nodup i j b k k' (hcase _ _ hi) (hcase _ _ hj)
    · intro i b k hi; exact hW.disj i b k (hcase _ _ hi)
    · intro i b k hi; exact hW.lt i b k (hcase _ _ hi)
    · exact hW.zlt
    · exact hW.z0
    · intro i b k hi; exact hW.fresh i b k (hcase _ _ hi)
    · exact hW.zfresh
    · exact hW.size
    · exact hW.frame
    · exact hW.os
    · exact hW.tape
    · exact hW.output
    · intro i p hp
      obtain ⟨h1, o, h2, h3⟩ := hW.pin i p hp
      exact ⟨bs_push _ _ h1, o, by rw [List.getElem?_append_left (List.getElem?_eq_some_iff.1 h2).1]; exact h2, h3⟩
  · have hkm := mem_of_lookup hk
    have hr := hI.rel k _ hkm
    have hI' := hI.mono (bs' := bs ++ [none]) bs_push (fun _ h => h) (fun _ _ => rfl)
    refine ⟨hI'.size, hI'.defers, fun i x hx => ?_⟩
    simp only [putT, List.mem_cons, Prod.mk.injEq, List.mem_filter] at hx
    rcases hx with ⟨rfl, rfl⟩ | ⟨hx, _⟩
    · refine ⟨hr.1, ?_⟩
      rw [hr.2.lit]
      exact .sl0 e _ (bs_last hW _)
    · exact hI'.rel i x hx

/-- A row of one's own becomes data: what a slot's value is behind that. -/
def V.fz (id : Nat) (ds : List D) : V → Option (V × List Prop)
  | .sl e id' off n => if id' == id && off == 0 then some (.d (.list false e n ds), [ds.length = n * e]) else none
  | _ => none
def fzL (id : Nat) (ds : List D) : List V → Option (List V × List Prop)
  | [] => some ([], [])
  | v :: vs =>
    match fzL id ds vs with
    | none => none
    | some (us, ps) =>
      match V.fz id ds v with
      | some (u, qs) => some (u :: us, qs ++ ps)
      | none => some (V.only (fun i => i != id) v :: us, ps)
def V.freeze (id : Nat) (ds : List D) : V → Option (V × List Prop)
  | .agg cs => (fzL id ds cs).map fun q => (mkAgg q.1, q.2)
  | v => V.fz id ds v

theorem RD.ofRow {ds : List D} {e n b cap k : Nat} {cs : Array Value} {ty : TypeId} {Z : Nat → Prop} (h : w.heap[b]? = some (.cells cs ty (0, 0))) (hR : RDL Z w ds (cs.toList.take ds.length)) (hle : ds.length ≤ cs.size) (hn : n ≤ cap) (hl : ds.length = n * e) :
    RD (fun c => Z c ∨ c = b) w (.list false e n ds) (.slice (some ⟨b, 0, none⟩) n cap) := by
  by_cases h0 : n = 0
  · subst h0
    have : ds = [] := List.eq_nil_of_length_eq_zero (by simpa using hl)
    subst this
    exact .list0 _ _ _ _ (by simp)
  · have hlen : (cs.toList.take ds.length).length = ds.length := hR.1
    refine .list false e n ds _ cap (fun j => (cs.toList.take ds.length).getD j undef) (by omega) hl (.inr rfl) hn (by simp) (fun j hj => ?_) (fun j hj => ?_) (fun j z hz => ?_)
    · rw [cell_at h]
      simp [List.getD, List.getElem?_take, hj, show j < cs.size by omega]
    · have := (hR.2 j ds[j] _ (List.getElem?_eq_getElem hj) (List.getElem?_eq_getElem (by omega))).1
      rw [List.getD_eq_getElem?_getD, List.getElem?_eq_getElem (by omega)]; exact this
    · have hj : j < ds.length := (List.getElem?_eq_some_iff.1 hz).1
      have := (hR.2 j z _ hz (List.getElem?_eq_getElem (by omega))).2
      rw [List.getD_eq_getElem?_getD, List.getElem?_eq_getElem (by omega)]
      exact this.mono (fun _ h => .inl h) (fun _ _ => rfl)

theorem freeze_core {Γ : Ctx} {a : Act} {w : World} {bs : Bs} {Z : Nat → Prop} (hW : InvW Γ H bs Z w) (hI : InvT N Γ T bs Z a w) (id : Nat) (ds : List D) (hid : H[id]? = some (.data ds)) :
    ∃ Z' : Nat → Prop, InvW Γ ((onlyH (· != id) H).set id (.data [])) (bs.set id none) Z' w ∧ InvT N Γ (onlyT (· != id) T) (bs.set id none) Z' a w ∧
      ∀ (v v' : V) (c : Value) (ps : List Prop), v.freeze id ds = some (v', ps) → (∀ p ∈ ps, p) → RV bs Z w v c → RV (bs.set id none) Z' w v' c := by
  have hidlt : id < bs.length := by rw [hW.lenH]; exact (List.getElem?_eq_some_iff.1 hid).1
  -- the new frozen blocks
  obtain ⟨q, hq⟩ : ∃ q, bs[id]? = some q := ⟨_, List.getElem?_eq_getElem hidlt⟩
  let Z' : Nat → Prop := fun b => Z b ∨ ∃ k, q = some (b, k)
  have hset : ∀ (i : Nat) (p : Nat × Nat), (bs.set id none)[i]? = some (some p) → i ≠ id ∧ bs[i]? = some (some p) := by
    intro i p h
    rw [List.getElem?_set] at h
    split at h
    · rename_i e; subst e; simp at h
    · rename_i e; exact ⟨fun e' => e e'.symm, h⟩
  have hkeep : ∀ (i : Nat) (o : Option (Nat × Nat)), (i != id) = true → bs[i]? = some o → (bs.set id none)[i]? = some o := fun i o hi hb => bs_set_keep i o hi hb
  have hZ : ∀ b, Z b → Z' b := fun b hb => .inl hb
  have hone : ∀ {e off n : Nat} {c : Value} {u : V} {qs : List Prop}, V.fz id ds (.sl e id off n) = some (u, qs) → (∀ p ∈ qs, p) → RV bs Z w (.sl e id off n) c → RV (bs.set id none) Z' w u c := by
    intro e off n c u qs hf hqs hr
    simp only [V.fz] at hf
    split at hf
    · rename_i hc
      simp at hc hf
      obtain ⟨rfl, rfl⟩ := hf
      subst hc
      have hl : ds.length = n * e := hqs _ (List.mem_singleton.2 rfl)
      have hob := hW.objs id _ _ hid hq
      cases hr with
      | sl _ _ _ _ b k cap hb hcap hkk hmm =>
        rw [hq] at hb; simp at hb; subst hb
        obtain ⟨cs, ty, g1, g2, g3, g4⟩ := hW.row (show rowAt H id = some (ds.map .d) by simp [rowAt, hid, O.row]) hq
        rw [List.length_map] at g4 g2
        refine .d _ _ ((RD.ofRow (k := k) g1 g4.toD g2 hcap hl).mono (fun b' hb' => ?_) (fun _ _ => rfl))
        rcases hb' with h | h
        · exact .inl h
        · subst h; exact .inr ⟨k, rfl⟩
      | sl0 _ _ hb =>
        have := hW.row0 (show rowAt H id = some (ds.map .d) by simp [rowAt, hid, O.row]) hb
        have : ds = [] := by simpa using this
        subst this
        exact .d _ _ (.list0 _ _ _ _ (by simp))
    · simp at hf
  have hfz : ∀ {x : V} {c : Value} {u : V} {qs : List Prop}, V.fz id ds x = some (u, qs) → (∀ p ∈ qs, p) → RV bs Z w x c → RV (bs.set id none) Z' w u c := by
    intro x c u qs hf hqs hr
    cases x with
    | sl e id' off n =>
      have : id' = id := by
        simp only [V.fz] at hf
        split at hf
        · rename_i hc; simp at hc; exact hc.1
        · simp at hf
      subst this
      exact hone hf hqs hr
    | _ => simp [V.fz] at hf
  have honly : ∀ {x : V} {c : Value}, RV bs Z w x c → RV (bs.set id none) Z' w (V.only (fun i => i != id) x) c := fun h => (h.only _ hkeep).mono (fun _ _ h => h) hZ (fun _ _ => rfl)
  have hfzL : ∀ (xs : List V) (us : List V) (qs : List Prop) (cs : List Value), fzL id ds xs = some (us, qs) → (∀ p ∈ qs, p) → RVL bs Z w xs cs → RVL (bs.set id none) Z' w us cs := by
    intro xs
    induction xs with
    | nil =>
      intro us qs cs hf hqs hr
      simp [fzL] at hf
      obtain ⟨rfl, rfl⟩ := hf
      have : cs = [] := List.eq_nil_of_length_eq_zero hr.1
      subst this
      exact RVL.nil
    | cons x xs ih =>
      intro us qs cs hf hqs hr
      cases cs with
      | nil => have := hr.1; simp at this
      | cons c cs =>
        have h0 := hr.2 0 x c rfl rfl
        have hr' : RVL bs Z w xs cs := ⟨by have := hr.1; simpa using this, fun j y d hy hd => hr.2 (j + 1) y d (by simpa using hy) (by simpa using hd)⟩
        unfold fzL at hf
        split at hf
        · simp at hf
        · rename_i us' ps' hrest
          split at hf
          · rename_i u qs' hu
            simp at hf
            obtain ⟨rfl, rfl⟩ := hf
            exact RVL.cons h0.1 (hfz hu (fun p hp => hqs p (List.mem_append_left _ hp)) h0.2) (ih _ _ _ hrest (fun p hp => hqs p (List.mem_append_right _ hp)) hr')
          · simp at hf
            obtain ⟨rfl, rfl⟩ := hf
            exact RVL.cons h0.1 (honly h0.2) (ih _ _ _ hrest hqs hr')
  refine ⟨Z', ?_, ?_, ?_⟩
  · constructor
    · simp [onlyH, hW.lenH]
    · intro i o p ho hb
      rw [List.getElem?_set] at ho hb
      split at ho
      · rename_i e; subst e
        rw [if_pos rfl, if_pos hidlt] at hb
        split at ho <;> simp at ho hb
        subst ho; subst hb; rfl
      · rename_i e
        rw [if_neg e] at hb
        simp only [onlyH, List.getElem?_map, Option.map_eq_some_iff] at ho
        obtain ⟨o', ho', rfl⟩ := ho
        exact ((hW.objs i o' p ho' hb).only _ hkeep).mono (fun _ _ h => h) hZ (fun _ _ => rfl) (fun _ _ _ => rfl)
    · intro i j b k k' hi hj; exact hW.nodup i j b k k' (hset _ _ hi).2 (hset _ _ hj).2
    · intro i b k hi hz
      obtain ⟨hne, hi⟩ := hset _ _ hi
      rcases hz with hz | ⟨k', rfl⟩
      · exact hW.disj i b k hi hz
      · exact hne (hW.nodup i id b k k' hi hq)
    · intro i b k hi; exact hW.lt i b k (hset _ _ hi).2
    · intro b hb
      rcases hb with hb | ⟨k', rfl⟩
      · exact hW.zlt b hb
      · exact hW.lt id b k' hq
    · intro b hb; exact .inl (hW.z0 b hb)
    · intro i b k hi; exact hW.fresh i b k (hset _ _ hi).2
    · intro b hb
      rcases hb with hb | ⟨k', rfl⟩
      · exact hW.zfresh b hb
      · exact .inr (hW.fresh id b k' hq)
    · exact hW.size
    · exact hW.frame
    · exact hW.os
    · exact hW.tape
    · exact hW.output
    · intro i p hp
      obtain ⟨h1, o, h2, h3⟩ := hW.pin i p hp
      have hne : id ≠ i := fun e => by subst e; rw [hid] at h2; simp at h2; subst h2; simp [O.isData] at h3
      exact ⟨by rw [List.getElem?_set, if_neg hne]; exact h1, o.only (· != id), by rw [List.getElem?_set, if_neg hne]; simp only [onlyH, List.getElem?_map, h2, Option.map_some], by rw [only_isData]; exact h3⟩
  · exact (hI.only (fun i => i != id) hkeep).mono (bs' := bs.set id none) (fun _ _ h => h) hZ (fun _ _ => rfl)
  · intro v v' c ps hv hp hr
    unfold V.freeze at hv
    split at hv
    · rename_i cs
      simp only [Option.map_eq_some_iff, Prod.mk.injEq] at hv
      obtain ⟨⟨us, qs⟩, h1, rfl, rfl⟩ := hv
      obtain ⟨ca, hca, hcl⟩ := hr.aggL
      rw [hca]
      have := RV.mkAgg (hfzL cs us qs ca.toList h1 hp hcl)
      simpa using this
    · exact hfz hv hp hr

theorem awp_freeze {c : Code} (k id : Nat) (ds : List D) (v v' : V) (T' : St) (H' : List O) (hk : T.lookup k = some v) (hid : H[id]? = some (.data ds)) (hv : v.freeze id ds = some (v', ps)) (hp : AllP ps)
    (hT' : putT (some k) v' (onlyT (· != id) T) = T') (hH' : (onlyH (· != id) H).set id (.data []) = H') (h : awp P rd N fl c Q T' H') : awp P rd N fl c Q T H := by
  subst hT'; subst hH'
  intro ro hro Γ a w hm hi
  obtain ⟨bs, Z, hW, hI⟩ := hi
  obtain ⟨Z', hW', hI', hv'⟩ := freeze_core hW hI id ds hid
  refine h ro hro Γ a w hm ⟨bs.set id none, Z', hW', ?_⟩
  have hr := hI.rel k _ (mem_of_lookup hk)
  refine ⟨hI'.size, hI'.defers, fun i x hx => ?_⟩
  simp only [putT, List.mem_cons, Prod.mk.injEq, List.mem_filter] at hx
  rcases hx with ⟨rfl, rfl⟩ | ⟨hx, _⟩
  · exact ⟨hr.1, hv' _ _ _ ps hv hp.mem hr.2⟩
  · exact hI'.rel i x hx

/-- The same for a cell of a box. -/
theorem awp_freezeC {c : Code} (k j id : Nat) (ds : List D) (xs : List V) (v v' : V) (T' : St) (H' : List O) (hk : H[k]? = some (.cells xs)) (hj : xs[j]? = some v) (hid : H[id]? = some (.data ds)) (hv : v.fz id ds = some (v', ps)) (hp : AllP ps)
    (hT' : onlyT (· != id) T = T') (hH' : ((onlyH (· != id) H).set id (.data [])).set k (.cells ((V.onlyL (· != id) xs).set j v')) = H') (h : awp P rd N fl c Q T' H') : awp P rd N fl c Q T H := by
  subst hT'; subst hH'
  intro ro hro Γ a w hm hi
  obtain ⟨bs, Z, hW, hI⟩ := hi
  obtain ⟨Z', hW', hI', hv'⟩ := freeze_core hW hI id ds hid
  have hne : id ≠ k := fun e => by subst e; rw [hid] at hk; simp at hk
  refine h ro hro Γ a w hm ⟨bs.set id none, Z', ?_, hI'⟩
  have hone' : ∀ c : Value, RV bs Z w v c → RV (bs.set id none) Z' w v' c := by
    intro c hr
    refine hv' v v' c ps ?_ hp.mem hr
    unfold V.freeze
    split
    · simp [V.fz] at hv
    · exact hv
  have hk' : ((onlyH (· != id) H).set id (.data []))[k]? = some (.cells (V.onlyL (· != id) xs)) := by
    rw [List.getElem?_set, if_neg hne]; simp only [onlyH, List.getElem?_map, hk, Option.map_some, O.only]
  have hklt := (List.getElem?_eq_some_iff.1 hk').1
  constructor
  · have := hW'.lenH; simpa using this
  · intro i o q ho hq
    rw [List.getElem?_set] at ho
    split at ho
    · rename_i e; subst e
      simp only [hklt, if_true, Option.some.injEq] at ho; subst ho
      have hold := hW'.objs _ _ _ hk' hq
      have hq0 : bs[k]? = some q := by rw [List.getElem?_set, if_neg hne] at hq; exact hq
      have hold0 := hW.objs _ _ _ hk hq0
      cases q with
      | none => simp only [okO] at hold ⊢; rw [hold]; simp
      | some q =>
        obtain ⟨b, kk⟩ := q
        obtain ⟨cs, t, g1, g2, g3, g4⟩ := hold
        obtain ⟨cs0, t0, f1, f2, f3, f4⟩ := hold0
        rw [g1] at f1; simp at f1
        obtain ⟨rfl, rfl⟩ := f1
        refine ⟨cs, t, g1, g2, by simpa using g3, fun n x hx => ?_⟩
        rw [List.getElem?_set] at hx
        split at hx
        · rename_i e; subst e
          split at hx <;> simp at hx
          subst hx
          obtain ⟨c', e1, e2, e3⟩ := f4 j v hj
          exact ⟨c', e1, e2, hone' c' e3⟩
        · exact g4 n x hx
    · exact hW'.objs _ _ _ ho hq
  · exact hW'.nodup
  · exact hW'.disj
  · exact hW'.lt
  · exact hW'.zlt
  · exact hW'.z0
  · exact hW'.fresh
  · exact hW'.zfresh
  · exact hW'.size
  · exact hW'.frame
  · exact hW'.os
  · exact hW'.tape
  · exact hW'.output
  · intro i p hp
    obtain ⟨h1, o, h2, h3⟩ := hW'.pin i p hp
    refine ⟨h1, ?_⟩
    rw [List.getElem?_set]
    split
    · rename_i e; subst e
      first
        | exact ⟨_, rfl, rfl⟩
        | exact ⟨_, if_pos hklt, rfl⟩
    · exact ⟨o, h2, h3⟩
end rules

section funs
variable {P : Program} {tt : Tab} {rd : Bool} {N fl : Nat} {T : St} {H : List O}

def entryT (args : List D) : St := (args.zipIdx).map fun q => (q.2, .d q.1)
def entryV (args : List V) : St := (args.zipIdx).map fun q => (q.2, q.1)
theorem entryT_eq (args : List D) : entryT args = entryV (args.map .d) := by
  unfold entryT entryV
  rw [List.zipIdx_map, List.map_map]
  rfl

/-- The value of a cell of one's own. -/
def cellV (tt : Tab) (T : St) (H : List O) (b t : Nat) : Option V :=
  match T.lookup b, tt.lookup t with
  | some (.ref id off), some i =>
    match rowAt H id with
    | some xs => (takeN i.size (xs.drop off)).bind (mkVal i.agg)
    | none => none
  | _, _ => none

/-- The results, out of their slots. -/
def resL (tt : Tab) (T : St) (H : List O) : List ResultVar → Option (List V)
  | [] => some []
  | .tmp t :: rs =>
    match T.lookup t, resL tt T H rs with
    | some v, some vs => some (v :: vs)
    | _, _ => none
  | .cell b t :: rs =>
    match cellV tt T H b t, resL tt T H rs with
    | some v, some vs => some (v :: vs)
    | _, _ => none
def resV : List V → V
  | [v] => v
  | vs => .tup vs

def isData : V → Bool
  | .d _ => true
  | .tup vs => vs.all fun v => match v with | .d _ => true | _ => false
  | _ => false

/-- What stands at a return: the result is r. -/
def retQ (tt : Tab) (rs : List ResultVar) (r : V) : Exit → St → List O → Prop := fun e T H => (e = .ret ∨ e = .normal) ∧ (resL tt T H rs).map resV = some r
/-- The same, and the objects are so. -/
def retH (tt : Tab) (rs : List ResultVar) (r : V) (H' : List O) : Exit → St → List O → Prop := fun e T H => (e = .ret ∨ e = .normal) ∧ (resL tt T H rs).map resV = some r ∧ H = H'

section
variable {bs : Bs} {Z : Nat → Prop} {a : Act} {w : World} {Γ : Ctx}

theorem cellV_sound (hT : Tab.ok P tt) (hW : InvW Γ H bs Z w) (hI : InvT N Γ T bs Z a w) {b t : Nat} {v : V} (h : cellV tt T H b t = some v) :
    ∃ c, (do loadVar t (← asAddr (a.tmps.getD b undef)) : Sem Value).run P w = .ok c w ∧ RV bs Z w v c := by
  unfold cellV at h
  split at h
  · rename_i id off i hb hi
    split at h
    · rename_i xs hr
      rw [Option.bind_eq_some_iff] at h
      obtain ⟨vs, h1, h2⟩ := h
      obtain ⟨h3, h4⟩ := takeN_eq h1
      have hv := (hI.rel b _ (mem_of_lookup hb)).2
      generalize hc : a.tmps.getD b undef = c at hv
      cases hv with | ref _ _ k q hk =>
      obtain ⟨cs, ty, g1, g2, _, g3⟩ := hW.row hr hk
      have g4 := (g3.drop off).take i.size
      rw [h3] at g4
      have hsz : i.agg = false → i.size = 1 := by
        intro ha
        unfold mkVal at h2
        simp [ha] at h2
        split at h2 <;> simp at h2
        rw [← h4]; rfl
      refine ⟨valOf i.agg ((List.drop off (cs.toList.take xs.length)).take i.size), ?_, RV.mkVal g4 h2⟩
      simp only [asAddr, Sem.run_bind, Sem.run_pure, Result.andThen_ok]
      refine run_loadVar hT hi (by rw [g4.1, h4]) hsz (fun j u hu => ?_)
      rw [cell_at g1]
      simp only [List.getElem?_take, List.getElem?_drop] at hu
      split at hu
      · split at hu
        · simpa using hu
        · simp at hu
      · simp at hu
    · simp at h
  · simp at h

theorem resL_sound (hT : Tab.ok P tt) (hW : InvW Γ H bs Z w) (hI : InvT N Γ T bs Z a w) : ∀ (rs : List ResultVar) (vs : List V), resL tt T H rs = some vs →
    ∃ cs : List Value, (rs.mapM fun (r : ResultVar) => (match r with | .tmp t => pure (a.tmps.getD t undef) | .cell b t => do loadVar t (← asAddr (a.tmps.getD b undef)) : Sem Value)).run P w = .ok cs w ∧ cs.length = vs.length ∧
      ∀ (j : Nat) v, vs[j]? = some v → ∃ c, cs[j]? = some c ∧ RV bs Z w v c := by
  intro rs
  induction rs with
  | nil => intro vs h; simp [resL] at h; subst h; exact ⟨[], by simp, rfl, fun j v h => by simp at h⟩
  | cons r rs ih =>
    intro vs h
    unfold resL at h
    split at h
    · simp at *
    · rename_i t rs' heq
      simp at heq
      obtain ⟨rfl, rfl⟩ := heq
      split at h
      · rename_i v vs' h1 h2
        simp at h
        subst h
        obtain ⟨cs, h3, h4, h5⟩ := ih vs' h2
        refine ⟨a.tmps.getD t undef :: cs, by simp only [List.mapM_cons, Sem.run_bind, Sem.run_pure, Result.andThen_ok, h3], by simp [h4], fun j u hu => ?_⟩
        cases j with
        | zero => simp at hu; subst hu; exact ⟨_, rfl, (hI.rel t _ (mem_of_lookup h1)).2⟩
        | succ j => simp at hu; simpa using h5 j u hu
      · simp at h
    · rename_i b t rs' heq
      simp at heq
      obtain ⟨rfl, rfl⟩ := heq
      split at h
      · rename_i v vs' h1 h2
        simp at h
        subst h
        obtain ⟨cs, h3, h4, h5⟩ := ih vs' h2
        obtain ⟨c, k1, k2⟩ := cellV_sound hT hW hI h1
        refine ⟨c :: cs, by simp only [List.mapM_cons, k1, Sem.run_bind, Sem.run_pure, Result.andThen_ok, h3], by simp [h4], fun j u hu => ?_⟩
        cases j with
        | zero => simp at hu; subst hu; exact ⟨_, rfl, k2⟩
        | succ j => simp at hu; simpa using h5 j u hu
      · simp at h

theorem results_run (hT : Tab.ok P tt) (hW : InvW Γ H bs Z w) (hI : InvT N Γ T bs Z a w) {fn : Func} {r : V} (h : (resL tt T H fn.results.toList).map resV = some r) : ∃ c, (results fn a.tmps).run P w = .ok c w ∧ RV bs Z w r c := by
  rw [Option.map_eq_some_iff] at h
  obtain ⟨vs, h1, h2⟩ := h
  obtain ⟨cv, k1, k2, k3⟩ := resL_sound (P := P) hT hW hI fn.results.toList vs h1
  have hm : (fn.results.mapM fun (r : ResultVar) => (match r with | .tmp t => pure (a.tmps.getD t undef) | .cell b t => do loadVar t (← asAddr (a.tmps.getD b undef)) : Sem Value)).run P w = .ok cv.toArray w := by
    rw [Array.mapM_eq_mapM_toList, Sem.run_map, k1]
    rfl
  have hres' : results fn a.tmps = (fn.results.mapM fun (r : ResultVar) => (match r with | .tmp t => pure (a.tmps.getD t undef) | .cell b t => do loadVar t (← asAddr (a.tmps.getD b undef)) : Sem Value)) >>=
      (fun vs => pure (if h : vs.size = 1 then vs[0] else .tuple vs)) := rfl
  by_cases hone : vs.length = 1
  · obtain ⟨v, rfl⟩ : ∃ v, vs = [v] := List.length_eq_one_iff.1 hone
    obtain ⟨c, rfl⟩ : ∃ c, cv = [c] := List.length_eq_one_iff.1 (by simpa using k2)
    simp only [resV] at h2
    subst h2
    obtain ⟨c', hc', hv⟩ := k3 0 v rfl
    simp at hc'; subst hc'
    exact ⟨c, by rw [hres', Sem.run_bind, hm]; rfl, hv⟩
  · have h3 : resV vs = .tup vs := by
      unfold resV
      split
      · simp at hone
      · rfl
    rw [h3] at h2
    subst h2
    refine ⟨.tuple cv.toArray, ?_, ?_⟩
    · rw [hres', Sem.run_bind, hm, Result.andThen_ok]
      rw [dif_neg (by simpa [k2] using hone)]
      rfl
    · refine .tup vs _ (fun j => cv.getD j undef) (by simp [k2]) (fun j hj => ?_) (fun j x hx => ?_)
      · simp at hj; simp [List.getD, hj]
      · obtain ⟨c, hc, hv⟩ := k3 j x hx
        have : cv.getD j undef = c := by simp [List.getD, hc]
        rw [this]
        exact hv

theorem entry_rel {args : List V} {cs : Array Value} {n : Nat} (hn : n = N) (hlen : args.length ≤ N) (hl : cs.size = args.length) (hargs : ∀ (j : Nat) x c, args[j]? = some x → cs[j]? = some c → RV bs Z w x c) :
    InvT N Γ (entryV args) bs Z { tmps := cs ++ Array.replicate (n - cs.size) undef, defers := [] } w := by
  refine ⟨by simp; omega, .nil, fun i x hx => ?_⟩
  simp only [entryV, List.mem_map] at hx
  obtain ⟨⟨y, j⟩, hy, he⟩ := hx
  simp at he
  obtain ⟨rfl, rfl⟩ := he
  have hj : args[j]? = some y := by
    rw [List.mem_zipIdx_iff_getElem?] at hy
    exact hy
  have hlt : j < args.length := (List.getElem?_eq_some_iff.1 hj).1
  refine ⟨by omega, ?_⟩
  have hc : cs[j]? = some (cs[j]'(by omega)) := by simp [show j < cs.size by omega]
  have := hargs j y _ hj hc
  rw [Array.getD_eq_getD_getElem?, Array.getElem?_append_left (by omega), hc]
  exact this
end

/-- A mark's block is shut: nothing that is spoken of has turned. -/
theorem InvW.collect {bs : Bs} {Z : Nat → Prop} {w : World} {Γ : Ctx} {H : List O} (hW : InvW Γ H bs Z w) {d : Nat} (hd : Γ.w0.heap.size ≤ d) (hz : Z d) (hh : w.heap[d]? = some (.deferred (some []))) :
    (∀ a : Addr, (w.putObj d (.deferred none)).cell? a = w.cell? a) ∧ InvW Γ H bs Z (w.putObj d (.deferred none)) := by
  have hlt : d < w.heap.size := hW.zlt d hz
  have hoth : ∀ b, b ≠ d → (w.putObj d (.deferred none)).heap[b]? = w.heap[b]? := fun b hb => World.putObj_heap_other hb
  have hcell : ∀ a : Addr, (w.putObj d (.deferred none)).cell? a = w.cell? a := by
    intro a
    by_cases ha : a.block = d
    · unfold World.cell?
      rw [ha, World.putObj_heap_same hlt, hh]
    · exact cell_of_heap (hoth _ ha)
  have hbs : ∀ (i : Nat) (b k : Nat), bs[i]? = some (some (b, k)) → b ≠ d := fun i b k h e => hW.disj i b k h (e ▸ hz)
  refine ⟨hcell, ?_⟩
  constructor
  · exact hW.lenH
  · intro i o q ho hq
    exact (hW.objs i o q ho hq).monoC (fun _ _ h => h) (fun _ h => h) (fun a _ => hcell a) (fun b k e => hoth b (hbs i b k (e ▸ hq)))
  · exact hW.nodup
  · exact hW.disj
  · intro i b k h; rw [World.putObj_size]; exact hW.lt i b k h
  · intro b h; rw [World.putObj_size]; exact hW.zlt b h
  · exact hW.z0
  · exact hW.fresh
  · exact hW.zfresh
  · rw [World.putObj_size]; exact hW.size
  · intro b hb hB; rw [hoth b (by omega)]; exact hW.frame b hb hB
  · exact hW.os
  · exact hW.tape
  · exact hW.output
  · exact hW.pin

theorem collect_all {bs : Bs} {Z : Nat → Prop} {Γ : Ctx} {H : List O} {F : Fence} {n : Nat} {fn : Func} {tmps : Array Value} {R : Ending → World → Prop} : ∀ (l : List Nat) (w : World), InvW Γ H bs Z w → l.Nodup →
    (∀ d ∈ l, Γ.w0.heap.size ≤ d ∧ Z d ∧ w.heap[d]? = some (.deferred (some []))) →
    (∀ w', InvW Γ H bs Z w' → (∀ a : Addr, w'.cell? a = w.cell? a) → ∃ v, (results fn tmps).run P w' = .ok v w' ∧ R (.returned v) w') → LeavesInM F n P fn tmps R (l.map markOf) .returning w := by
  intro l
  induction l with
  | nil => intro w hW _ _ h; exact h w hW (fun _ => rfl)
  | cons d l ih =>
    intro w hW hnd hl h
    obtain ⟨h1, h2, h3⟩ := hl d (List.mem_cons_self ..)
    obtain ⟨hc, hW'⟩ := hW.collect h1 h2 h3
    have hnd' := List.nodup_cons.1 hnd
    refine ⟨by simp, .inl ⟨d, _, rfl, run_takeDeferred h3, ih _ hW' hnd'.2 (fun e he => ?_) (fun w' hw' hc' => h w' hw' (fun a => (hc' a).trans (hc a)))⟩⟩
    obtain ⟨g1, g2, g3⟩ := hl e (List.mem_cons_of_mem _ he)
    refine ⟨g1, g2, (World.putObj_heap_other ?_).trans g3⟩
    rintro rfl
    exact hnd'.1 he

theorem calls_of_awp (hT : Tab.ok P tt) {f : FuncId} {fn : Func} {c : Code} {cs : Array Value} {Γ : Ctx} {w : World} {r : V} {R : Ending → World → Prop} (hf : P.funcs[f]? = some fn) (hb : fn.body = some c)
    (h : c.wpIn Fence.wide 0 P (fun e a' w' => ∃ T' H', ((e = .ret ∨ e = .normal) ∧ (resL tt T' H' fn.results.toList).map resV = some r ∧ (∀ bs Z w' c, InvW Γ H' bs Z w' → RV bs Z w' r c → R (.returned c) w')) ∧ Inv N Γ T' H' a' w')
      { tmps := cs ++ Array.replicate (fn.ntmps - cs.size) undef, defers := [] } w) : Calls P f cs w R := by
  refine callsIn_wide.1 (callsIn_of_wp_marks hf hb (F := Fence.wide) (n := 0) trivial ?_)
  refine wpIn_mono h ?_
  rintro e a' w' ⟨T', H', ⟨he, hres, hR⟩, bs, Z, hW, hI⟩
  obtain ⟨l, hl, hnd, hm⟩ := hI.defers
  have key : LeavesInM Fence.wide 0 P fn a'.tmps R a'.defers .returning w' := by
    rw [hl]
    refine collect_all l w' hW hnd hm ?_
    intro w2 hW2 hc2
    have hI2 : InvT N Γ T' bs Z { a' with defers := [] } w2 := ⟨hI.size, .nil, fun i x hx => ⟨(hI.rel i x hx).1, (hI.rel i x hx).2.monoC (fun _ _ h => h) (fun _ h => h) (fun a _ => hc2 a)⟩⟩
    obtain ⟨c, hc1, hc3⟩ := results_run (P := P) hT hW2 hI2 hres
    exact ⟨c, hc1, hR bs Z w2 c hW2 hc3⟩
  rcases he with rfl | rfl
  · exact key
  · exact key

theorem HCall.of_awp (hT : Tab.ok P tt) {f : FuncId} {fn : Func} {c : Code} {args : List V} {r : V} {H' : List O} (hf : P.funcs[f]? = some fn) (hb : fn.body = some c) (hn : (fn.name == "runtime.NumGoroutine") = false) (hN : fn.ntmps = N)
    (hlen : args.length ≤ N) (h : awp P false N H.length c (retH tt fn.results.toList r H') (entryV args) H) : HCall P f args H r H' := by
  refine ⟨⟨fn, hf, hn, by simp [hb]⟩, ?_⟩
  intro Γ bs Z w cs hW hn0 hl hargs
  have hI := entry_rel (Γ := Γ) (n := fn.ntmps) (N := N) (bs := bs) (Z := Z) (w := w) hN hlen hl hargs
  refine calls_of_awp (N := N) (Γ := Γ) (r := r) hT hf hb (wpIn_mono (h none rfl Γ _ w hn0 ⟨bs, Z, hW, hI⟩) ?_)
  rintro e a' w' ⟨T', H2, ⟨he, hres, rfl⟩, hi⟩
  exact ⟨T', H2, ⟨he, hres, fun bs Z w' c hW hr => ⟨c, bs, Z, rfl, hW, hr⟩⟩, hi⟩

theorem PCall.of_awp (hT : Tab.ok P tt) {f : FuncId} {fn : Func} {c : Code} {args : List D} {r : V} (hf : P.funcs[f]? = some fn) (hb : fn.body = some c) (hn : (fn.name == "runtime.NumGoroutine") = false) (hN : fn.ntmps = N)
    (hlen : args.length ≤ N) (hr : isData r = true) (h : awp P false N 0 c (retQ tt fn.results.toList r) (entryT args) []) : PCall P f args r := by
  refine ⟨⟨fn, hf, hn, by simp [hb]⟩, ?_⟩
  intro Z w cs hz hl hargs
  let Γ : Ctx := { w0 := w, Z0 := Z, B0 := fun _ => False }
  have hW : InvW Γ [] [] Z w := by
    constructor
    · rfl
    · intro i o b h; simp at h
    · intro i j b k k' h; simp at h
    · intro i b k h; simp at h
    · intro i b k h; simp at h
    · exact hz
    · exact fun b h => h
    · intro i b k h; simp at h
    · exact fun b h => .inl h
    · exact Nat.le_refl _
    · exact fun b _ _ => rfl
    · rfl
    · rfl
    · rfl
    · intro i p h; simp [Γ] at h
  have hI := entry_rel (Γ := Γ) (args := args.map .d) (n := fn.ntmps) (N := N) (bs := []) (Z := Z) (w := w) (cs := cs) hN (by simpa using hlen) (by simpa using hl) (fun j x c hx hc => by
    rw [List.getElem?_map, Option.map_eq_some_iff] at hx
    obtain ⟨y, hy, rfl⟩ := hx
    exact .d _ _ (hargs j y c hy hc))
  rw [← entryT_eq] at hI
  refine calls_of_awp (N := N) (Γ := Γ) (r := r) hT hf hb (wpIn_mono (h none rfl Γ _ w (Nat.le_refl _) ⟨[], Z, hW, hI⟩) ?_)
  rintro e a' w' ⟨T', H', ⟨he, hres⟩, hi⟩
  refine ⟨T', H', ⟨he, hres, fun bs Z' w' c hW' hc2 => ?_⟩, hi⟩
  have hgrow : Grow Z w Z' w' := ⟨hW'.os, hW'.tape, hW'.output, hW'.size, fun b hb => hW'.frame b hb (fun h => h), hW'.z0, fun b hb => by
    rcases hW'.zfresh b hb with h | h | h
    · exact .inl h
    · exact .inr ⟨h, hW'.zlt b hb⟩
    · exact h.elim⟩
  have hdata : ∀ {x : V} {c : Value}, (match x with | .d _ => true | _ => false) = true → RV bs Z' w' x c → RV [] Z' w' x c := by
    intro x c hx hr
    cases hr with
    | d y c h => exact .d y c h
    | _ => simp at hx
  have hdr : ∀ {x : V} {c : Value}, isData x = true → RV bs Z' w' x c → RV [] Z' w' x c := by
    intro x c hx hr
    cases hr with
    | d y c h => exact .d y c h
    | tup us cs2 g hl hf' hr' =>
      simp only [isData, List.all_eq_true] at hx
      exact .tup us cs2 g hl hf' (fun j x hj => hdata (hx x (List.mem_of_getElem? hj)) (hr' j x hj))
    | _ => simp [isData] at hx
  exact ⟨c, Z', rfl, hgrow, hdr hr hc2⟩
end funs
end Go.Sx
