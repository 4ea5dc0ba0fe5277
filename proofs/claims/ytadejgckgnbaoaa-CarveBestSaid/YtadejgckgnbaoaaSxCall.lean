/- Calls that read and write objects: what they come to for the caller. -/
import Derived.Test.YtadejgckgnbaoaaSxRen
namespace Go.Sx
open Go
set_option linter.unusedSimpArgs false
set_option linter.unusedVariables false

theorem subH_get {H : List O} {is : List Nat} : ∀ {ids : List (Nat × Bool)} {Hs : List O}, subH H is ids = some Hs →
    Hs.length = ids.length ∧ ∀ (j : Nat) p, ids[j]? = some p → ∃ o, H[p.1]? = some o ∧ (p.2 = true → o.isData = true) ∧ Hs[j]? = some (fixAt p.2 (o.re (inIds is 0))) := by
  intro ids
  induction ids with
  | nil => intro Hs h; simp [subH] at h; subst h; exact ⟨rfl, fun j p h => by simp at h⟩
  | cons q ids ih =>
    intro Hs h
    unfold subH at h
    split at h
    · rename_i o os h1 h2
      split at h
      · simp at h
      · rename_i hc
        simp at h; subst h
        obtain ⟨h3, h4⟩ := ih h2
        refine ⟨by simp [h3], fun j p hj => ?_⟩
        cases j with
        | zero =>
          simp at hj; subst hj
          refine ⟨o, h1, fun hp => ?_, rfl⟩
          simpa [hp] using hc
        | succ j => simpa using h4 j p (by simpa using hj)
    · simp at h

theorem oldH_get {H' : List O} {g : Nat → Option Nat} : ∀ {ids : List (Nat × Bool)} {n : Nat} {olds : List O}, oldH H' g n ids = some olds →
    olds.length = ids.length ∧ ∀ (j : Nat) p, ids[j]? = some p → ∃ o, H'[n + j]? = some o ∧ olds[j]? = some (unfixAt p.2 (o.re g)) := by
  intro ids
  induction ids with
  | nil => intro n olds h; simp [oldH] at h; subst h; exact ⟨rfl, fun j p h => by simp at h⟩
  | cons q ids ih =>
    intro n olds h
    unfold oldH at h
    split at h
    · rename_i o os h1 h2
      simp at h; subst h
      obtain ⟨h3, h4⟩ := ih h2
      refine ⟨by simp [h3], fun j p hj => ?_⟩
      cases j with
      | zero => simp at hj; subst hj; exact ⟨o, h1, rfl⟩
      | succ j =>
        obtain ⟨o', h5, h6⟩ := h4 j p (by simpa using hj)
        exact ⟨o', by rw [← h5]; congr 1; omega, by simpa using h6⟩
    · simp at h

theorem re_isData (f : Nat → Option Nat) (o : O) : (o.re f).isData = o.isData := by cases o <;> rfl
theorem okO.fixAt {bs : Bs} {Z : Nat → Prop} {w : World} {o : O} {b : Option (Nat × Nat)} (q : Bool) (h : okO bs Z w o b) : okO bs Z w (fixAt q o) b := by
  cases q
  · exact h
  · exact h.fix
theorem okO.unfixAt {bs : Bs} {Z : Nat → Prop} {w : World} {o : O} {b : Option (Nat × Nat)} (q : Bool) (h : okO bs Z w o b) : okO bs Z w (unfixAt q o) b := by
  cases q
  · exact h
  · exact h.unfix
theorem fixAt_isData {q : Bool} {o : O} (h : o.isData = false) : (fixAt q o).isData = false := by
  cases q <;> cases o <;> simp_all [fixAt, O.fix, O.isData]

/-- Which of the caller's objects lie where they lay. -/
def stayIds : List Nat → List O → Nat → Bool
  | i :: is, o :: Hs, k => if i == k then !o.isData else stayIds is Hs k
  | _, _, _ => true

theorem stayIds_get : ∀ (is : List Nat) (Hs : List O) (j i : Nat) (o : O), nodupB is = true → is[j]? = some i → Hs[j]? = some o → stayIds is Hs i = !o.isData := by
  intro is
  induction is with
  | nil => intro Hs j i o _ h; simp at h
  | cons k is ih =>
    intro Hs j i o hn h ho
    cases Hs with
    | nil => simp at ho
    | cons q Hs =>
      simp only [nodupB, Bool.and_eq_true, Bool.not_eq_true'] at hn
      unfold stayIds
      cases j with
      | zero => simp at h ho; subst h; subst ho; simp
      | succ j =>
        simp at h ho
        have hne : (k == i) = false := by
          rw [beq_eq_false_iff_ne]
          rintro rfl
          have := hn.1
          simp at this
          exact this (List.mem_of_getElem? h)
        rw [hne]
        simp only [Bool.false_eq_true, if_false]
        exact ih Hs j i o hn.2 h ho

variable {P : Program} {Γ : Ctx} {H H' Hs : List O} {bs : Bs} {Z : Nat → Prop} {w : World}

theorem HRun.use {K : Array Value → World → (Ending → World → Prop) → Prop} (hK : ∀ {cs w} {R R' : Ending → World → Prop}, K cs w R → (∀ e w, R e w → R' e w) → K cs w R') {args : List V} {r : V} (hc : HRun K args Hs r H') (hW : InvW Γ H bs Z w) {ids : List (Nat × Bool)} (hnd : nodupB (ids.map (·.1)) = true) (hs : subH H (ids.map (·.1)) ids = some Hs) {olds : List O}
    (ho : oldH H' (outIds (ids.map (·.1)) H.length) 0 ids = some olds) {cs : Array Value} {gs : List V} (hl : cs.size = gs.length) (hre : gs.map (V.re (inIds (ids.map (·.1)) 0)) = args)
    (hargs : ∀ (j : Nat) x c, gs[j]? = some x → cs[j]? = some c → RV bs Z w x c) :
    K cs w (fun e w' => ∃ c bs2 Z', e = .returned c ∧
      InvW Γ (mergeH (ids.map (·.1)) olds (stayIds (ids.map (·.1)) Hs) 0 H ++ (H'.drop ids.length).map (O.re (outIds (ids.map (·.1)) H.length))) bs2 Z' w' ∧ RV bs2 Z' w' (r.re (outIds (ids.map (·.1)) H.length)) c ∧
      (∀ (i : Nat) (o : Option (Nat × Nat)), stayIds (ids.map (·.1)) Hs i = true → bs[i]? = some o → bs2[i]? = some o) ∧ (∀ b, Z b → Z' b) ∧ (∀ b, Z b → w'.heap[b]? = w.heap[b]?)) := by
  generalize his : ids.map (·.1) = is at *
  obtain ⟨hsl, hsg⟩ := subH_get hs
  obtain ⟨hol, hog⟩ := oldH_get ho
  have hisl : is.length = ids.length := by rw [← his]; simp
  have hidx : ∀ (j i : Nat), is[j]? = some i → ∃ p, ids[j]? = some p ∧ p.1 = i := by
    intro j i h
    rw [← his, List.getElem?_map, Option.map_eq_some_iff] at h
    exact h
  -- where the objects lie that are handed
  let bss : Bs := is.map fun i => (bs[i]?).getD none
  have hlt : ∀ i, i ∈ is → i < bs.length := by
    intro i hi
    obtain ⟨j, hj⟩ := List.mem_iff_getElem?.1 hi
    obtain ⟨p, hp, rfl⟩ := hidx j i hj
    obtain ⟨o, h1, _⟩ := hsg j p hp
    rw [hW.lenH]; exact (List.getElem?_eq_some_iff.1 h1).1
  have hbss : ∀ (j i : Nat), is[j]? = some i → bss[j]? = bs[i]? := by
    intro j i h
    simp only [bss, List.getElem?_map, h, Option.map_some]
    rw [List.getElem?_eq_getElem (hlt i (List.mem_of_getElem? h))]; rfl
  have hbssl : bss.length = ids.length := by simp [bss, hisl]
  have hbss' : ∀ (j : Nat) (q : Option (Nat × Nat)), bss[j]? = some q → ∃ i, is[j]? = some i ∧ bs[i]? = some q := by
    intro j q h
    have hj : j < is.length := by have := (List.getElem?_eq_some_iff.1 h).1; simpa [bss] using this
    exact ⟨is[j], List.getElem?_eq_getElem hj, by rw [← hbss j is[j] (List.getElem?_eq_getElem hj)]; exact h⟩
  have hin : ∀ (i j : Nat) (o : Option (Nat × Nat)), inIds is 0 i = some j → bs[i]? = some o → bss[j]? = some o := by
    intro i j o h1 h2
    obtain ⟨_, h3⟩ := inIds_some is 0 i j h1
    rw [hbss j i (by simpa using h3)]; exact h2
  let B : Nat → Prop := fun b => ∃ i k, i ∈ is ∧ bs[i]? = some (some (b, k))
  let pn : Nat → Option (Option (Nat × Nat)) := fun j => if (Hs[j]?).map O.isData = some false then bss[j]? else none
  have hpn : ∀ i p, pn i = some p → i < ids.length := by
    intro i p h
    simp only [pn] at h
    split at h
    · rw [← hbssl]; exact (List.getElem?_eq_some_iff.1 h).1
    · simp at h
  let Γ' : Ctx := ⟨w, Z, B, pn, ids.length, hpn⟩
  have hWs : InvW Γ' Hs bss Z w := by
    constructor
    · rw [hbssl, hsl]
    · intro j o q h1 h2
      obtain ⟨i, h3, h4⟩ := hbss' j q h2
      obtain ⟨p, h5, rfl⟩ := hidx j i h3
      obtain ⟨o', h6, _, h7⟩ := hsg j p h5
      rw [h1] at h7; simp at h7; subst h7
      exact ((hW.objs _ _ _ h6 h4).re _ hin).fixAt _
    · intro i j b k k' h1 h2
      obtain ⟨i', h3, h4⟩ := hbss' i _ h1
      obtain ⟨j', h5, h6⟩ := hbss' j _ h2
      have := hW.nodup _ _ _ _ _ h4 h6
      subst this
      have e1 := inIds_get is 0 i' i hnd h3
      have e2 := inIds_get is 0 i' j hnd h5
      rw [e1] at e2; simp at e2; exact e2
    · intro i b k h1
      obtain ⟨i', h3, h4⟩ := hbss' i _ h1
      exact hW.disj _ _ _ h4
    · intro i b k h1
      obtain ⟨i', h3, h4⟩ := hbss' i _ h1
      exact hW.lt _ _ _ h4
    · exact hW.zlt
    · exact fun b h => h
    · intro i b k h1
      obtain ⟨i', h3, h4⟩ := hbss' i _ h1
      exact .inr ⟨i', k, List.mem_of_getElem? h3, h4⟩
    · exact fun b h => .inl h
    · exact Nat.le_refl _
    · exact fun b _ _ => rfl
    · rfl
    · rfl
    · rfl
    · intro i p h
      simp only [Γ', pn] at h
      split at h
      · rename_i hd
        refine ⟨h, ?_⟩
        rw [Option.map_eq_some_iff] at hd
        exact hd
      · simp at h
  have hn0 : Γ'.n0 ≤ Hs.length := by rw [hsl]; exact Nat.le_refl _
  have hcs : cs.size = args.length := by rw [hl, ← hre]; simp
  refine hK (hc Γ' bss Z w cs hWs hn0 hcs ?_) ?_
  · intro j x c hx hcj
    rw [← hre, List.getElem?_map, Option.map_eq_some_iff] at hx
    obtain ⟨y, hy, rfl⟩ := hx
    exact (hargs j y c hy hcj).re _ hin
  rintro e w' ⟨c, bs', Z', rfl, hW', hr⟩
  have hbl' : ids.length ≤ bs'.length := by
    rw [hW'.lenH]
    rcases Nat.eq_zero_or_pos ids.length with h0 | h0
    · omega
    · have hj : ids.length - 1 < ids.length := by omega
      obtain ⟨o, h1, _⟩ := hog (ids.length - 1) ids[ids.length - 1] (List.getElem?_eq_getElem hj)
      have := (List.getElem?_eq_some_iff.1 h1).1
      omega
  let bs2 : Bs := mergeB is bs' 0 bs ++ bs'.drop ids.length
  -- the four ways to a place
  have hget : ∀ (i : Nat) (q : Option (Nat × Nat)), bs2[i]? = some q → (i < bs.length ∧ inIds is 0 i = none ∧ bs[i]? = some q) ∨ (∃ j, i < bs.length ∧ inIds is 0 i = some j ∧ j < ids.length ∧ bs'[j]? = some q) ∨
      (bs.length ≤ i ∧ bs'[ids.length + (i - bs.length)]? = some q) := by
    intro i q h
    simp only [bs2, List.getElem?_append, mergeB_length] at h
    split at h
    · rename_i hi
      rw [mergeB_get, Option.map_eq_some_iff, Nat.zero_add] at h
      obtain ⟨b, hb, h⟩ := h
      split at h
      · rename_i j hj
        obtain ⟨_, h3⟩ := inIds_some is 0 i j hj
        have hjl : j < ids.length := by rw [← hisl]; exact (List.getElem?_eq_some_iff.1 (by simpa using h3)).1
        rw [List.getElem?_eq_getElem (show j < bs'.length by omega)] at h
        simp at h
        exact .inr (.inl ⟨j, hi, hj, hjl, by rw [List.getElem?_eq_getElem (show j < bs'.length by omega), h]⟩)
      · rename_i hj
        subst h
        exact .inl ⟨hi, hj, hb⟩
    · rename_i hi
      rw [List.getElem?_drop] at h
      exact .inr (.inr ⟨by omega, h⟩)
  have hget0 : ∀ (i : Nat) (q : Option (Nat × Nat)), inIds is 0 i = none → bs[i]? = some q → bs2[i]? = some q := by
    intro i q h1 h2
    have hi := (List.getElem?_eq_some_iff.1 h2).1
    simp only [bs2, List.getElem?_append, mergeB_length, if_pos hi, mergeB_get, Nat.zero_add, h2, Option.map_some, h1]
  have hget1 : ∀ (i j : Nat) (q : Option (Nat × Nat)), inIds is 0 i = some j → bs'[j]? = some q → bs2[i]? = some q := by
    intro i j q h1 h2
    obtain ⟨_, h3⟩ := inIds_some is 0 i j h1
    have hi := hlt i (List.mem_of_getElem? h3)
    simp only [bs2, List.getElem?_append, mergeB_length, if_pos hi, mergeB_get, Nat.zero_add, List.getElem?_eq_getElem hi, Option.map_some, h1, h2, Option.getD_some]
  have hg : ∀ (j k : Nat) (q : Option (Nat × Nat)), outIds is H.length j = some k → bs'[j]? = some q → bs2[k]? = some q := by
    intro j k q h1 h2
    unfold outIds at h1
    split at h1
    · rename_i i hi
      simp at h1; subst h1
      exact hget1 i j q (by simpa using inIds_get is 0 i j hnd hi) h2
    · rename_i hi
      simp at h1; subst h1
      rw [List.getElem?_eq_none_iff] at hi
      simp only [bs2, List.getElem?_append, mergeB_length, ← hW.lenH]
      rw [if_neg (by omega), List.getElem?_drop, ← h2]
      congr 1; omega
  have hstay : ∀ (i : Nat) (q : Option (Nat × Nat)), stayIds is Hs i = true → bs[i]? = some q → bs2[i]? = some q := by
    intro i q h1 h2
    cases h3 : inIds is 0 i with
    | none => exact hget0 i q h3 h2
    | some j =>
      obtain ⟨_, h4⟩ := inIds_some is 0 i j h3
      simp only [Nat.sub_zero] at h4
      have hjs : j < Hs.length := by rw [hsl, ← hisl]; exact (List.getElem?_eq_some_iff.1 h4).1
      have h5 := stayIds_get is Hs j i Hs[j] hnd h4 (List.getElem?_eq_getElem hjs)
      rw [h1] at h5
      have h6 : Γ'.pin j = some q := by
        simp only [Γ', pn, List.getElem?_eq_getElem hjs, Option.map_some]
        rw [if_pos (by congr 1; simpa using h5.symm), hbss j i h4]; exact h2
      exact hget1 i j q h3 (hW'.pin j q h6).1
  have hnB : ∀ (i b k : Nat), inIds is 0 i = none → bs[i]? = some (some (b, k)) → ¬ B b := by
    rintro i b k h1 h2 ⟨i', k', h3, h4⟩
    have := hW.nodup _ _ _ _ _ h2 h4
    subst this
    obtain ⟨j, hj⟩ := List.mem_iff_getElem?.1 h3
    rw [inIds_get is 0 i j hnd hj] at h1; simp at h1
  have hZB : ∀ b, Z b → ¬ B b := by
    rintro b hb ⟨i', k', h3, h4⟩
    exact hW.disj _ _ _ h4 hb
  have hheap : ∀ b, b < w.heap.size → ¬ B b → w'.heap[b]? = w.heap[b]? := fun b h1 h2 => hW'.frame b h1 h2
  have hzheap : ∀ b, Z b → w'.heap[b]? = w.heap[b]? := fun b hb => hheap b (hW.zlt b hb) (hZB b hb)
  have hZ' : ∀ b, Z b → Z' b := hW'.z0
  -- blocks of what was handed, behind the call
  have hnew : ∀ (j b k : Nat), bs'[j]? = some (some (b, k)) → w.heap.size ≤ b ∨ B b := fun j b k h => hW'.fresh j b k h
  have hBfresh : ∀ b, B b → b < w.heap.size ∧ (Γ.w0.heap.size ≤ b ∨ Γ.B0 b) := by
    rintro b ⟨i, k, _, h⟩
    exact ⟨hW.lt _ _ _ h, hW.fresh _ _ _ h⟩
  have hoB : ∀ (i b k : Nat), inIds is 0 i = none → bs[i]? = some (some (b, k)) → ∀ (j k' : Nat), bs'[j]? = some (some (b, k')) → False := by
    intro i b k h1 h2 j k' h3
    rcases hnew j b k' h3 with h | h
    · have := hW.lt _ _ _ h2; omega
    · exact hnB i b k h1 h2 h
  refine ⟨c, bs2, Z', rfl, ?_, hr.re _ hg, hstay, hZ', hzheap⟩
  have honly : ∀ {o : O} {q : Option (Nat × Nat)} (i : Nat), inIds is 0 i = none → bs[i]? = some q → okO bs Z w o q → okO bs2 Z' w' (o.only (stayIds is Hs)) q := by
    intro o q i hn hq h
    have h1 : okO bs2 Z w (o.only (stayIds is Hs)) q := h.only _ hstay
    refine h1.mono (fun _ _ h => h) hZ' hzheap ?_
    rintro k g rfl
    exact hheap k (hW.lt _ _ _ hq) (hnB i k g hn hq)
  constructor
  · simp only [bs2, List.length_append, mergeB_length, mergeH_length, List.length_drop, List.length_map]
    have := hW.lenH; have := hW'.lenH; omega
  · intro i o q h1 h2
    rw [List.getElem?_append, mergeH_length] at h1
    rcases hget i q h2 with ⟨hi, h3, h4⟩ | ⟨j, hi, h3, h3', h4⟩ | ⟨hi, h4⟩
    · rw [if_pos (by rw [← hW.lenH]; exact hi), mergeH_get, Nat.zero_add, Option.map_eq_some_iff] at h1
      obtain ⟨o', h5, h6⟩ := h1
      rw [h3] at h6
      simp only at h6
      subst h6
      exact honly i h3 h4 (hW.objs _ _ _ h5 h4)
    · rw [if_pos (by rw [← hW.lenH]; exact hi), mergeH_get, Nat.zero_add, Option.map_eq_some_iff] at h1
      obtain ⟨o', h5, h6⟩ := h1
      rw [h3] at h6
      simp only at h6
      obtain ⟨p, hp⟩ : ∃ p, ids[j]? = some p := ⟨_, List.getElem?_eq_getElem h3'⟩
      obtain ⟨o'', h7, h8⟩ := hog j p hp
      rw [h8] at h6
      simp at h6
      subst h6
      rw [Nat.zero_add] at h7
      exact ((hW'.objs _ _ _ h7 h4).re _ hg).unfixAt _
    · rw [if_neg (by rw [← hW.lenH]; omega), List.getElem?_map, List.getElem?_drop, Option.map_eq_some_iff] at h1
      obtain ⟨o', h5, rfl⟩ := h1
      rw [hW.lenH] at h4
      exact (hW'.objs _ _ _ h5 h4).re _ hg
  · intro i j b k k' h1 h2
    rcases hget i _ h1 with ⟨hi, h3, h4⟩ | ⟨n, hi, h3, h3', h4⟩ | ⟨hi, h4⟩ <;> rcases hget j _ h2 with ⟨hj, g3, g4⟩ | ⟨m, hj, g3, g3', g4⟩ | ⟨hj, g4⟩
    · exact hW.nodup _ _ _ _ _ h4 g4
    · exact (hoB i b k h3 h4 _ _ g4).elim
    · exact (hoB i b k h3 h4 _ _ g4).elim
    · exact (hoB j b k' g3 g4 _ _ h4).elim
    · have := hW'.nodup _ _ _ _ _ h4 g4
      subst this
      obtain ⟨_, h5⟩ := inIds_some is 0 i n h3
      obtain ⟨_, h6⟩ := inIds_some is 0 j n g3
      rw [h5] at h6; simpa using h6
    · have := hW'.nodup _ _ _ _ _ h4 g4
      omega
    · exact (hoB j b k' g3 g4 _ _ h4).elim
    · have := hW'.nodup _ _ _ _ _ h4 g4
      omega
    · have := hW'.nodup _ _ _ _ _ h4 g4
      omega
  · intro i b k h1 hz
    rcases hget i _ h1 with ⟨hi, h3, h4⟩ | ⟨n, hi, h3, h3', h4⟩ | ⟨hi, h4⟩
    · rcases hW'.zfresh b hz with h | h | h
      · exact hW.disj _ _ _ h4 h
      · have := hW.lt _ _ _ h4; exact absurd h (by show ¬ w.heap.size ≤ b; omega)
      · exact hnB i b k h3 h4 h
    · exact hW'.disj _ _ _ h4 hz
    · exact hW'.disj _ _ _ h4 hz
  · intro i b k h1
    have hsz : w.heap.size ≤ w'.heap.size := hW'.size
    rcases hget i _ h1 with ⟨hi, h3, h4⟩ | ⟨n, hi, h3, h3', h4⟩ | ⟨hi, h4⟩
    · have := hW.lt _ _ _ h4; omega
    · exact hW'.lt _ _ _ h4
    · exact hW'.lt _ _ _ h4
  · exact hW'.zlt
  · exact fun b hb => hZ' b (hW.z0 b hb)
  · intro i b k h1
    have hsz : Γ.w0.heap.size ≤ w.heap.size := hW.size
    have key : ∀ j : Nat, bs'[j]? = some (some (b, k)) → Γ.w0.heap.size ≤ b ∨ Γ.B0 b := by
      intro j hj
      rcases hnew j b k hj with h | h
      · left; omega
      · exact (hBfresh b h).2
    rcases hget i _ h1 with ⟨hi, h3, h4⟩ | ⟨n, hi, h3, h3', h4⟩ | ⟨hi, h4⟩
    · exact hW.fresh _ _ _ h4
    · exact key _ h4
    · exact key _ h4
  · intro b hz
    have hsz : Γ.w0.heap.size ≤ w.heap.size := hW.size
    rcases hW'.zfresh b hz with h | h | h
    · exact hW.zfresh b h
    · right; left; exact Nat.le_trans hsz h
    · exact .inr (hBfresh b h).2
  · exact Nat.le_trans hW.size hW'.size
  · intro b h1 h2
    have hnb : ¬ B b := by
      intro h
      rcases (hBfresh b h).2 with h | h
      · omega
      · exact h2 h
    rw [hheap b (Nat.lt_of_lt_of_le h1 hW.size) hnb]
    exact hW.frame b h1 h2
  · exact hW'.os.trans hW.os
  · exact hW'.tape.trans hW.tape
  · exact hW'.output.trans hW.output
  · intro i p hp
    obtain ⟨h1, o, h2, h3⟩ := hW.pin i p hp
    have hi := (List.getElem?_eq_some_iff.1 h1).1
    cases h4 : inIds is 0 i with
    | none =>
      refine ⟨hget0 i p h4 h1, o.only (stayIds is Hs), ?_, by rw [only_isData]; exact h3⟩
      rw [List.getElem?_append, mergeH_length, if_pos (by rw [← hW.lenH]; exact hi), mergeH_get, Nat.zero_add, h2, h4]; rfl
    | some j =>
      obtain ⟨_, h5⟩ := inIds_some is 0 i j h4
      simp only [Nat.sub_zero] at h5
      obtain ⟨q, h6, rfl⟩ := hidx j i h5
      obtain ⟨o', h7, h8, h9⟩ := hsg j q h6
      rw [h2] at h7; simp at h7; subst h7
      have hq : q.2 = false := by
        cases hq : q.2
        · rfl
        · have := h8 hq; rw [h3] at this; simp at this
      have hpin : Γ'.pin j = some p := by
        simp only [Γ', pn, h9, Option.map_some]
        rw [if_pos (by rw [fixAt_isData (by rw [re_isData]; exact h3)]), hbss j q.1 h5]; exact h1
      obtain ⟨k1, o2, k2, k3⟩ := hW'.pin j p hpin
      obtain ⟨o3, k4, k5⟩ := hog j q h6
      rw [Nat.zero_add, k2] at k4; simp at k4; subst k4
      refine ⟨hget1 q.1 j p h4 k1, o2.re (outIds is H.length), ?_, by rw [re_isData]; exact k3⟩
      rw [List.getElem?_append, mergeH_length, if_pos (by rw [← hW.lenH]; exact hi), mergeH_get, Nat.zero_add, h2, h4]
      simp only [Option.map_some, k5, Option.getD_some, hq, unfixAt, cond_false]

def evHCall (P : Program) (ids : List (Nat × Bool)) (r : V) (H' : List O) (T : St) (H : List O) (fv : V) (args : List V) : Option (V × St × List O × List Prop) :=
  if nodupB (ids.map (·.1)) then
    match subH H (ids.map (·.1)) ids, oldH H' (outIds (ids.map (·.1)) H.length) 0 ids with
    | some Hs, some olds =>
      match fv with
      | .fn (.func f) first cap => some (r.re (outIds (ids.map (·.1)) H.length), onlyT (stayIds (ids.map (·.1)) Hs) T,
          mergeH (ids.map (·.1)) olds (stayIds (ids.map (·.1)) Hs) 0 H ++ (H'.drop ids.length).map (O.re (outIds (ids.map (·.1)) H.length)),
          [HCall P f ((first ++ args ++ cap).map (V.re (inIds (ids.map (·.1)) 0))) Hs r H'])
      | .yld k => some (r.re (outIds (ids.map (·.1)) H.length), onlyT (stayIds (ids.map (·.1)) Hs) T,
          mergeH (ids.map (·.1)) olds (stayIds (ids.map (·.1)) Hs) 0 H ++ (H'.drop ids.length).map (O.re (outIds (ids.map (·.1)) H.length)),
          [YCall P ((.yld k :: args).map (V.re (inIds (ids.map (·.1)) 0))) Hs r H'])
      | _ => none
    | _, _ => none
  else none
def evHC (P : Program) (o : Oper) (ids : List (Nat × Bool)) (r : V) (H' : List O) (T : St) (H : List O) : Option (V × St × List O × List Prop) :=
  match o.op with
  | .call c =>
    match c.callee with
    | .value f => evHCall P ids r H' T H (getV T f) (c.args.toList.map (getV T))
    | _ => none
  | _ => none

/-- What an operation leaves to show, in a frame of a function or of a round. -/
def DoesIn (P : Program) (N : Nat) (Γ : Ctx) (o : Oper) (a : Act) (w : World) (v : V) (T' : St) (H' : List O) : Prop :=
  ∀ (ro : Option Nat) (next : Act → World → Prop) (Q : Exit → Act → World → Prop), (∀ c bs' Z' w', InvW Γ H' bs' Z' w' → InvT N Γ T' bs' Z' a w' → RV bs' Z' w' v c → next (a.put o.dst c) w') → o.wpIn (wideAt ro) 0 P a w next Q

section
variable {o : Oper} {a : Act} {v : V} {ps : List Prop} {N : Nat} {T T' : St}
theorem run_enter' {c : Call} {x : Operand} {f : FuncId} {fs cs : Array Value} (ho : o.op = .call c) (hc : c.callee = .value x) (hx : a.eval x = .func (.func f) fs cs) (hf : FnOk P f) :
    (execOp a.eval o).run P w = .ok (.enter f (fs ++ c.args.map a.eval ++ cs)) w := by
  simp [execOp, ho, resolve, hc, hx, Deferred.ofValue, invoke, run_callFunc hf]

theorem run_yield' {c : Call} {x : Operand} {l : Nat} {r : Loop} (ho : o.op = .call c) (hc : c.callee = .value x) (hx : a.eval x = .func (.yield l) #[] #[]) (hl : w.heap[l]? = some (.loop r)) (hs : c.args.size = r.params.size) :
    (execOp a.eval o).run P w = .ok (.round l r.fn ((r.params.zip (c.args.map a.eval)).foldl (fun tmps (t, a) => tmps.setIfInBounds t a) r.tmps) r.assign r.body) w := by
  have := run_yield (P := P) (args := c.args.map a.eval) hl (by simpa using hs)
  simp [execOp, ho, resolve, hc, hx, Deferred.ofValue, invoke, this]

theorem args_rel (hI : InvT N Γ T bs Z a w) (l : Array Operand) : ∀ (j : Nat) y d, (l.toList.map (getV T))[j]? = some y → (l.map a.eval)[j]? = some d → RV bs Z w y d := by
  intro j y d hy hd
  rw [List.getElem?_map, Option.map_eq_some_iff] at hy
  obtain ⟨u, hu, rfl⟩ := hy
  rw [Array.getElem?_map, Option.map_eq_some_iff] at hd
  obtain ⟨u', hu', rfl⟩ := hd
  rw [Array.getElem?_toList, hu'] at hu
  simp at hu; subst hu
  exact getV_sound hI _

theorem call_rel {first cap gs : List V} {fs cs as : Array Value} {f k : Nat → Value} (hl : fs.size = first.length) (hl' : cs.size = cap.length) (hgl : gs.length = as.size)
    (hf : ∀ j, j < fs.size → fs[j]? = some (f j)) (hk : ∀ j, j < cs.size → cs[j]? = some (k j))
    (hr : ∀ j x, first[j]? = some x → RV bs Z w x (f j)) (hr' : ∀ j x, cap[j]? = some x → RV bs Z w x (k j)) (hargs : ∀ (j : Nat) y d, gs[j]? = some y → as[j]? = some d → RV bs Z w y d) :
    ∀ (j : Nat) y d, (first ++ gs ++ cap)[j]? = some y → (fs ++ as ++ cs)[j]? = some d → RV bs Z w y d := by
  intro j y d hy hd
  simp only [List.append_assoc, List.getElem?_append] at hy
  rw [Array.getElem?_append, Array.getElem?_append] at hd
  simp only [Array.size_append] at hd
  split at hy
  · rename_i h1
    rw [if_pos (by omega), if_pos (by omega), hf j (by omega)] at hd
    simp at hd; subst hd
    exact hr j y hy
  · rename_i h1
    split at hy
    · rename_i h2
      rw [if_pos (by omega), if_neg (by omega), hl] at hd
      exact hargs _ _ _ hy hd
    · rename_i h2
      rw [if_neg (by omega)] at hd
      have e : j - (fs.size + as.size) = j - first.length - gs.length := by rw [hl]; omega
      rw [e] at hd
      have hlt := (List.getElem?_eq_some_iff.1 hy).1
      rw [hk _ (by omega)] at hd
      simp at hd; subst hd
      exact hr' _ _ hy

/-- A call with objects, whatever its operands read as. -/
theorem hcall_run (hW : InvW Γ H bs Z w) {fv : V} {gs : List V} {x : Operand} {c : Call} (ho : o.op = .call c) (hc : c.callee = .value x) (hx : RV bs Z w fv (a.eval x)) (hgl : gs.length = c.args.size)
    (hargs : ∀ (j : Nat) y d, gs[j]? = some y → (c.args.map a.eval)[j]? = some d → RV bs Z w y d) {ids : List (Nat × Bool)} {r : V} (he : evHCall P ids r H' T H fv gs = some (v, T', Hs, ps)) (hp : ∀ p ∈ ps, p)
    (ro : Option Nat) (next : Act → World → Prop) (Q : Exit → Act → World → Prop)
    (hn : ∀ (Hs' : List O) c bs2 Z' w', subH H (ids.map (·.1)) ids = some Hs' → T' = onlyT (stayIds (ids.map (·.1)) Hs') T → InvW Γ Hs bs2 Z' w' → RV bs2 Z' w' v c → (∀ (i : Nat) (o : Option (Nat × Nat)), stayIds (ids.map (·.1)) Hs' i = true → bs[i]? = some o → bs2[i]? = some o) →
      (∀ b, Z b → Z' b) → (∀ b, Z b → w'.heap[b]? = w.heap[b]?) → next (a.put o.dst c) w') : o.wpIn (wideAt ro) 0 P a w next Q := by
  have hnd : ∀ d, o.op ≠ .defer d := by intro d hd; rw [ho] at hd; cases hd
  unfold evHCall at he
  split at he
  · rename_i hnd'
    split at he
    · rename_i Hs' olds hs hol
      split at he
      · rename_i f first cap
        simp only [Option.some.injEq, Prod.mk.injEq] at he
        obtain ⟨rfl, rfl, rfl, rfl⟩ := he
        have hcall := hp _ (List.mem_singleton.2 rfl)
        generalize hfv : a.eval x = fv at hx
        cases hx with
        | fn _ _ _ fs cs g k hl hl' hf hk hr hr' =>
          refine ⟨fun _ _ => trivial, ?_⟩
          rw [Oper.semAt_eq _ _ _ hnd, run_enter' ho hc hfv hcall.ok]
          refine ⟨fun h => by simp [wideAt, Fence.wide] at h, (callsIn_wide (n := 0)).2 ?_⟩
          refine Calls.mono (HRun.use (K := fun cs w R => Calls P f cs w R) Calls.mono hcall.run hW hnd' hs hol (gs := first ++ gs ++ cap) ?_ rfl (call_rel hl hl' (by simpa using hgl) hf hk hr hr' hargs)) ?_
          · simp [hl, hl', hgl, Nat.add_assoc]
          · rintro e w' ⟨c', bs2, Z', rfl, h1, h2, h3, h4, h5⟩
            exact hn _ _ _ _ _ hs rfl h1 h2 h3 h4 h5
      · rename_i k
        simp only [Option.some.injEq, Prod.mk.injEq] at he
        obtain ⟨rfl, rfl, rfl, rfl⟩ := he
        have hcall := hp _ (List.mem_singleton.2 rfl)
        generalize hfv : a.eval x = fv at hx
        cases hx with
        | yld _ b q hb =>
          refine ⟨fun _ _ => trivial, ?_⟩
          obtain ⟨l, r', k1, k2, k3, k4⟩ := HRun.use (K := YRun P) YRun.mono hcall hW hnd' hs hol (gs := .yld k :: gs) (cs := #[.func (.yield b) #[] #[]] ++ c.args.map a.eval) (by simp; omega) rfl (by
            intro j y d hy hd
            cases j with
            | zero =>
              have hd' : d = .func (.yield b) #[] #[] := by
                rw [Array.getElem?_append_left (by simp)] at hd
                simpa using hd.symm
              simp at hy; subst hy; subst hd'
              exact .yld _ _ _ hb
            | succ j =>
              have hd' : (c.args.map a.eval)[j]? = some d := by
                rw [Array.getElem?_append_right (by simp)] at hd
                simpa using hd
              exact hargs j y d (by simpa using hy) hd')
          have hlb : l = b := by
            rw [Array.getElem?_append_left (by simp)] at k1
            simpa using k1.symm
          subst hlb
          rw [Oper.semAt_eq _ _ _ hnd, run_yield' ho hc hfv k2 (by simp at k3; omega)]
          refine ⟨fun h => by simp [wideAt, Fence.wide] at h, ?_⟩
          have e : (#[Value.func (.yield l) #[] #[]] ++ c.args.map a.eval).extract 1 (#[Value.func (.yield l) #[] #[]] ++ c.args.map a.eval).size = c.args.map a.eval := by
            apply Array.ext'
            simp
            exact List.take_of_length_le (by simp)
          rw [e] at k4
          refine RoundIn.mono (F := Fence.wide) k4 ?_
          rintro e w' ⟨c', bs2, Z', rfl, h1, h2, h3, h4, h5⟩
          exact hn _ _ _ _ _ hs rfl h1 h2 h3 h4 h5
      · simp at he
    · simp at he
  · simp at he

theorem hc_next (hI : InvT N Γ T bs Z a w) {bs2 : Bs} {Z' : Nat → Prop} {w' : World} {st : Nat → Bool} (hs : ∀ (i : Nat) (o : Option (Nat × Nat)), st i = true → bs[i]? = some o → bs2[i]? = some o) (hZ : ∀ b, Z b → Z' b)
    (hw : ∀ b, Z b → w'.heap[b]? = w.heap[b]?) : InvT N Γ (onlyT st T) bs2 Z' a w' :=
  (hI.only st hs).mono (fun _ _ h => h) hZ hw

theorem evHC_sound (hW : InvW Γ H bs Z w) (hI : InvT N Γ T bs Z a w) {ids : List (Nat × Bool)} {r : V} (he : evHC P o ids r H' T H = some (v, T', Hs, ps)) (hp : ∀ p ∈ ps, p) : DoesIn P N Γ o a w v T' Hs := by
  unfold evHC at he
  split at he
  · rename_i c ho
    split at he
    · rename_i x hc
      intro ro next Q hn
      refine hcall_run hW ho hc (getV_sound hI x) (by simp) (args_rel hI c.args) he hp ro next Q ?_
      intro Hs' c' bs2 Z' w' hs hT h1 h2 h3 h4 h5
      subst hT
      exact hn _ _ _ _ h1 (hc_next hI h3 h4 h5) h2
    · simp at he
  · simp at he
end
end Go.Sx
