/- A region whose order is drawn: that its operations are apart is shown ahead, by the region's number, with a list of what stands ahead of each. -/
import Derived.Test.YtpkhbbboedoldaaS
import Derived.KernelRfl
namespace Go.Proofs.Ytpkhbbboedoldaa
open Go Go.Sx
set_option maxRecDepth 100000
set_option linter.all false

theorem ancs_entry (ops : List Oper) : ∀ (i : Nat) (o : Oper), ops[i]? = some o → (ancs ops []).getD i [] = ancOf ((ancs ops []).take i) o := by
  have hgen : ∀ (os : List Oper) (acc : List (List Nat)) (i : Nat) (o : Oper), os[i]? = some o → (ancs os acc)[acc.length + i]? = some (ancOf ((ancs os acc).take (acc.length + i)) o) := by
    intro os
    induction os with
    | nil => intro acc i o h; simp at h
    | cons o os ih =>
      intro acc i o' h
      cases i with
      | zero =>
        simp at h; subst h
        rw [ancs, Nat.add_zero, ancs_prefix _ _ _ (by simp)]
        simp
        congr 1
        apply List.ext_getElem?
        intro j
        rw [List.getElem?_take]
        split
        · rename_i hj
          rw [ancs_prefix _ _ _ (by simp; omega), List.getElem?_append_left hj]
        · rename_i hj
          rw [List.getElem?_eq_none (by omega)]
      | succ i =>
        simp at h
        have := ih (acc ++ [ancOf acc o]) i o' h
        rw [ancs]
        simp only [List.length_append, List.length_singleton] at this
        rw [show acc.length + (i + 1) = acc.length + 1 + i by omega]
        exact this
  intro i o h
  have := hgen ops [] i o h
  simp at this
  rw [List.getD_eq_getElem?_getD, this]; rfl

/-- Each list names only what stands ahead of its operation. -/
def okAs (av : List (List Nat)) : List (List Nat) → List Oper → Bool
  | a :: rest, o :: os => a.all (fun i => o.after.toList.any fun e => Region.binds .any e && (Nat.beq e.on i || memB i (av.getD e.on []))) && okAs av rest os
  | [], _ => true
  | _ :: _, [] => false
theorem okAs_at {av : List (List Nat)} : ∀ (rest : List (List Nat)) (os : List Oper), okAs av rest os = true → ∀ (j : Nat) (a : List Nat), rest[j]? = some a → ∃ o, os[j]? = some o ∧ ∀ i ∈ a, ∃ e ∈ o.after.toList, Region.binds .any e = true ∧ (e.on = i ∨ memB i (av.getD e.on []) = true) := by
  intro rest
  induction rest with
  | nil => intro os _ j a h; simp at h
  | cons b rest ih =>
    intro os h j a hj
    cases os with
    | nil => simp [okAs] at h
    | cons o os =>
      rw [okAs, Bool.and_eq_true] at h
      cases j with
      | zero =>
        simp at hj; subst hj
        refine ⟨o, rfl, fun i hi => ?_⟩
        have h1 := List.all_eq_true.1 h.1 i hi
        obtain ⟨e, he, h2⟩ := List.any_eq_true.1 h1
        rw [Bool.and_eq_true, Bool.or_eq_true] at h2
        exact ⟨e, he, h2.1, h2.2.imp (fun h => Nat.eq_of_beq_eq_true h) id⟩
      | succ j =>
        obtain ⟨o', h1, h2⟩ := ih os h.2 j a (by simpa using hj)
        exact ⟨o', by simpa using h1, h2⟩
theorem okAs_sub {av : List (List Nat)} {ops : List Oper} (hb : allBackB ops 0 = true) (h : okAs av av ops = true) : ∀ (n j : Nat), j ≤ n → ∀ i, memB i (av.getD j []) = true → memB i ((ancs ops []).getD j []) = true := by
  intro n
  induction n with
  | zero =>
    intro j hj i hi
    have hj0 : j = 0 := by omega
    subst hj0
    rw [memB_iff, List.getD_eq_getElem?_getD] at hi
    cases ha : av[0]? with
    | none => rw [ha] at hi; simp at hi
    | some a =>
      rw [ha] at hi
      obtain ⟨o, ho, h1⟩ := okAs_at _ _ h 0 a ha
      obtain ⟨e, he, hbi, _⟩ := h1 i (by simpa using hi)
      have := allBackB_at ops 0 hb 0 o ho e he hbi
      omega
  | succ n ih =>
    intro j hj i hi
    rw [memB_iff, List.getD_eq_getElem?_getD] at hi
    cases ha : av[j]? with
    | none => rw [ha] at hi; simp at hi
    | some a =>
      rw [ha] at hi
      obtain ⟨o, ho, h1⟩ := okAs_at _ _ h j a ha
      obtain ⟨e, he, hbi, h2⟩ := h1 i (by simpa using hi)
      have hlt := allBackB_at ops 0 hb j o ho e he hbi
      rw [ancs_entry ops j o ho, memB_iff, ancOf, List.mem_flatMap]
      refine ⟨e, he, ?_⟩
      rw [if_pos hbi]
      rcases h2 with h2 | h2
      · rw [h2]; simp
      · have h3 := ih e.on (by omega) i h2
        rw [memB_iff] at h3
        refine List.mem_cons_of_mem _ ?_
        have hsub : ((ancs ops []).take j).getD e.on [] = (ancs ops []).getD e.on [] := by
          rw [List.getD_eq_getElem?_getD, List.getElem?_take, if_pos (by omega), ← List.getD_eq_getElem?_getD]
        rw [hsub]; exact h3

section mono
variable {dsts : List (Option Tmp)} {av bs : List (List Nat)} (hm : ∀ j i, memB i (av.getD j []) = true → memB i (bs.getD j []) = true)
include hm
theorem apartB_mono {i j : Nat} {oi oj : Oper} (h : apartB dsts av i j oi oj = true) : apartB dsts bs i j oi oj = true := by
  unfold apartB at h ⊢
  rw [Bool.or_eq_true] at h ⊢
  exact h.imp (hm j i) id
theorem pairsB_mono {i : Nat} {oi : Oper} : ∀ (os : List Oper) (j : Nat), pairsB dsts av i oi os j = true → pairsB dsts bs i oi os j = true := by
  intro os
  induction os with
  | nil => intro j _; rfl
  | cons o os ih =>
    intro j h
    rw [pairsB, Bool.and_eq_true] at h ⊢
    exact ⟨apartB_mono hm h.1, ih _ h.2⟩
theorem allPairsB_mono : ∀ (os : List Oper) (i : Nat), allPairsB dsts av os i = true → allPairsB dsts bs os i = true := by
  intro os
  induction os with
  | nil => intro i _; rfl
  | cons o os ih =>
    intro i h
    rw [allPairsB, Bool.and_eq_true] at h ⊢
    exact ⟨pairsB_mono hm _ _ h.1, ih _ h.2⟩
theorem tailB_mono : ∀ (n i : Nat), tailB av i n = true → tailB bs i n = true := by
  intro n
  induction n with
  | zero => intro i _; rfl
  | succ n ih =>
    intro i h
    rw [tailB, Bool.and_eq_true] at h ⊢
    refine ⟨List.all_eq_true.2 fun j hj => hm i j (List.all_eq_true.1 h.1 j hj), ih _ h.2⟩
end mono
def drawL (av : List (List Nat)) (ops : List Oper) (m : Nat) : Bool :=
  Nat.ble m ops.length && allBackB ops 0 && okAs av av ops && allPairsB (ops.map (·.dst)) av (ops.take m) 0 && tailB av m (ops.length - m)
theorem drawL_sound {av : List (List Nat)} {ops : List Oper} {m : Nat} (h : drawL av ops m = true) : drawB ops m = true := by
  unfold drawL at h
  simp only [Bool.and_eq_true] at h
  obtain ⟨⟨⟨⟨h1, h2⟩, h3⟩, h4⟩, h5⟩ := h
  have hm := fun j i => okAs_sub h2 h3 j j (Nat.le_refl _) i
  unfold drawB
  simp only [Bool.and_eq_true]
  exact ⟨⟨⟨h1, h2⟩, allPairsB_mono hm _ _ h4⟩, tailB_mono hm _ _ h5⟩

def regAt : Code → Nat → Option (Array Oper)
  | .region id ops _, k => if Nat.beq id k then some ops else none
  | .seq a b, k => match regAt a k with | some o => some o | none => regAt b k
  | .cond _ a b, k => match regAt a k with | some o => some o | none => regAt b k
  | .block _ b, k => regAt b k
  | .loop b, k => regAt b k
  | .scope b, k => regAt b k
  | .rangeFunc _ _ a b, k => match regAt a k with | some o => some o | none => regAt b k
  | _, _ => none
def evDrawN (P : Program) (tt : Tab) (N m : Nat) (ops : Array Oper) (hs : List Hint) (mid ks : List Nat) (T : St) (H : List O) : Option (St × List O × List Prop) :=
  if noEff (ops.toList.take m) hs then
    match evOps P tt N (ops.toList.map (·.dst)) (ops.toList.take m) hs T H with
    | none => none
    | some (T1, H1, ps) =>
      match evOps P tt N (ops.toList.map (·.dst)) (ops.toList.drop m) (hs.drop m) (keepT mid T1) H1 with
      | none => none
      | some (T2, H2, qs) => some (keepT ks T2, H2, ps ++ qs)
  else none
theorem evDraw_of {P : Program} {tt : Tab} {N m : Nat} {ops : Array Oper} {hs : List Hint} {mid ks : List Nat} {T : St} {H : List O} (hd : drawB ops.toList m = true) : evDraw P tt N m ops hs mid ks T H = evDrawN P tt N m ops hs mid ks T H := by
  unfold evDraw evDrawN
  rw [hd, Bool.true_and]
  rfl
theorem gd {rd : Bool} {N fl : Nat} {T : St} {H : List O} {Q : Exit → St → List O → Prop} {y : Code} {id rid m : Nat} {ops : Array Oper} {fb : Option Code} {av : List (List Nat)} (hd : ((fb.bind (regAt · rid)).map fun ops => drawL av ops.toList m) = some true)
    (ks : List Nat) (hs : List Hint) (mid : List Nat) (T' : St) (H' : List O) (ps : List Prop) (hp : AllP ps) (hq : awp Try.prog rd N fl y Q T' H') (hr : fb.bind (regAt · rid) = some ops := by kernel_rfl)
    (he : evDrawN Try.prog tt N m ops hs mid ks T H = some (T', H', ps) := by kernel_rfl) : awp Try.prog rd N fl (.seq (.region id ops true) y) Q T H := by
  refine awp_sdraw tt_ok mixed (ks := ks) (hs := hs) m mid T' H' ps ?_ hp hq
  rw [hr] at hd
  rw [evDraw_of (drawL_sound (Option.some.inj hd))]
  exact he
theorem apart8 : ((Try.f8.body.bind (regAt · 8)).map fun ops => drawL [[], [0], [1, 0], [2, 1, 0], [3, 2, 1, 0], [2, 1, 0], [5, 2, 1, 0], [6, 5, 2, 1, 0], [7, 6, 5, 4, 3, 2, 1, 0], [8, 7, 6, 5, 4, 3, 2, 1, 0], [9, 8, 7, 6, 5, 4, 3, 2, 1, 0], [10, 9, 8, 7, 6, 5, 4, 3, 2, 1, 0], [10, 9, 8, 7, 6, 5, 4, 3, 2, 1, 0], [12, 11, 10, 9, 8, 7, 6, 5, 4, 3, 2, 1, 0], [13, 12, 11, 10, 9, 8, 7, 6, 5, 4, 3, 2, 1, 0], [14, 13, 12, 11, 10, 9, 8, 7, 6, 5, 4, 3, 2, 1, 0], [10, 9, 8, 7, 6, 5, 4, 3, 2, 1, 0], [10, 9, 8, 7, 6, 5, 4, 3, 2, 1, 0], [17, 16, 10, 9, 8, 7, 6, 5, 4, 3, 2, 1, 0], [18, 17, 16, 10, 9, 8, 7, 6, 5, 4, 3, 2, 1, 0], [19, 18, 17, 16, 10, 9, 8, 7, 6, 5, 4, 3, 2, 1, 0], [20, 19, 18, 17, 16, 15, 14, 13, 12, 11, 10, 9, 8, 7, 6, 5, 4, 3, 2, 1, 0], [21, 20, 19, 18, 17, 16, 15, 14, 13, 12, 11, 10, 9, 8, 7, 6, 5, 4, 3, 2, 1, 0], [22, 21, 20, 19, 18, 17, 16, 15, 14, 13, 12, 11, 10, 9, 8, 7, 6, 5, 4, 3, 2, 1, 0], [23, 22, 21, 20, 19, 18, 17, 16, 15, 14, 13, 12, 11, 10, 9, 8, 7, 6, 5, 4, 3, 2, 1, 0], [23, 22, 21, 20, 19, 18, 17, 16, 15, 14, 13, 12, 11, 10, 9, 8, 7, 6, 5, 4, 3, 2, 1, 0], [25, 24, 23, 22, 21, 20, 19, 18, 17, 16, 15, 14, 13, 12, 11, 10, 9, 8, 7, 6, 5, 4, 3, 2, 1, 0], [26, 25, 24, 23, 22, 21, 20, 19, 18, 17, 16, 15, 14, 13, 12, 11, 10, 9, 8, 7, 6, 5, 4, 3, 2, 1, 0], [27, 26, 25, 24, 23, 22, 21, 20, 19, 18, 17, 16, 15, 14, 13, 12, 11, 10, 9, 8, 7, 6, 5, 4, 3, 2, 1, 0], [28, 27, 26, 25, 24, 23, 22, 21, 20, 19, 18, 17, 16, 15, 14, 13, 12, 11, 10, 9, 8, 7, 6, 5, 4, 3, 2, 1, 0], [29, 28, 27, 26, 25, 24, 23, 22, 21, 20, 19, 18, 17, 16, 15, 14, 13, 12, 11, 10, 9, 8, 7, 6, 5, 4, 3, 2, 1, 0], [30, 29, 28, 27, 26, 25, 24, 23, 22, 21, 20, 19, 18, 17, 16, 15, 14, 13, 12, 11, 10, 9, 8, 7, 6, 5, 4, 3, 2, 1, 0], [31, 30, 29, 28, 27, 26, 25, 24, 23, 22, 21, 20, 19, 18, 17, 16, 15, 14, 13, 12, 11, 10, 9, 8, 7, 6, 5, 4, 3, 2, 1, 0], [31, 30, 29, 28, 27, 26, 25, 24, 23, 22, 21, 20, 19, 18, 17, 16, 15, 14, 13, 12, 11, 10, 9, 8, 7, 6, 5, 4, 3, 2, 1, 0], [33, 32, 31, 30, 29, 28, 27, 26, 25, 24, 23, 22, 21, 20, 19, 18, 17, 16, 15, 14, 13, 12, 11, 10, 9, 8, 7, 6, 5, 4, 3, 2, 1, 0], [34, 33, 32, 31, 30, 29, 28, 27, 26, 25, 24, 23, 22, 21, 20, 19, 18, 17, 16, 15, 14, 13, 12, 11, 10, 9, 8, 7, 6, 5, 4, 3, 2, 1, 0], [35, 34, 33, 32, 31, 30, 29, 28, 27, 26, 25, 24, 23, 22, 21, 20, 19, 18, 17, 16, 15, 14, 13, 12, 11, 10, 9, 8, 7, 6, 5, 4, 3, 2, 1, 0], [31, 30, 29, 28, 27, 26, 25, 24, 23, 22, 21, 20, 19, 18, 17, 16, 15, 14, 13, 12, 11, 10, 9, 8, 7, 6, 5, 4, 3, 2, 1, 0], [37, 31, 30, 29, 28, 27, 26, 25, 24, 23, 22, 21, 20, 19, 18, 17, 16, 15, 14, 13, 12, 11, 10, 9, 8, 7, 6, 5, 4, 3, 2, 1, 0], [38, 37, 36, 35, 34, 33, 32, 31, 30, 29, 28, 27, 26, 25, 24, 23, 22, 21, 20, 19, 18, 17, 16, 15, 14, 13, 12, 11, 10, 9, 8, 7, 6, 5, 4, 3, 2, 1, 0], [39, 38, 37, 36, 35, 34, 33, 32, 31, 30, 29, 28, 27, 26, 25, 24, 23, 22, 21, 20, 19, 18, 17, 16, 15, 14, 13, 12, 11, 10, 9, 8, 7, 6, 5, 4, 3, 2, 1, 0]] ops.toList 39) = some true := by kernel_rfl
theorem apart22 : ((Try.f8.body.bind (regAt · 22)).map fun ops => drawL [[], [0], [1, 0], [2, 1, 0], [3, 2, 1, 0], [2, 1, 0], [5, 2, 1, 0], [6, 5, 4, 3, 2, 1, 0], [7, 6, 5, 4, 3, 2, 1, 0], [8, 7, 6, 5, 4, 3, 2, 1, 0], [9, 8, 7, 6, 5, 4, 3, 2, 1, 0], [9, 8, 7, 6, 5, 4, 3, 2, 1, 0], [11, 10, 9, 8, 7, 6, 5, 4, 3, 2, 1, 0], [12, 11, 10, 9, 8, 7, 6, 5, 4, 3, 2, 1, 0], [13, 12, 11, 10, 9, 8, 7, 6, 5, 4, 3, 2, 1, 0], [9, 8, 7, 6, 5, 4, 3, 2, 1, 0], [9, 8, 7, 6, 5, 4, 3, 2, 1, 0], [16, 15, 9, 8, 7, 6, 5, 4, 3, 2, 1, 0], [17, 16, 15, 9, 8, 7, 6, 5, 4, 3, 2, 1, 0], [18, 17, 16, 15, 9, 8, 7, 6, 5, 4, 3, 2, 1, 0], [19, 18, 17, 16, 15, 14, 13, 12, 11, 10, 9, 8, 7, 6, 5, 4, 3, 2, 1, 0], [20, 19, 18, 17, 16, 15, 14, 13, 12, 11, 10, 9, 8, 7, 6, 5, 4, 3, 2, 1, 0], [21, 20, 19, 18, 17, 16, 15, 14, 13, 12, 11, 10, 9, 8, 7, 6, 5, 4, 3, 2, 1, 0], [22, 21, 20, 19, 18, 17, 16, 15, 14, 13, 12, 11, 10, 9, 8, 7, 6, 5, 4, 3, 2, 1, 0], [22, 21, 20, 19, 18, 17, 16, 15, 14, 13, 12, 11, 10, 9, 8, 7, 6, 5, 4, 3, 2, 1, 0], [24, 23, 22, 21, 20, 19, 18, 17, 16, 15, 14, 13, 12, 11, 10, 9, 8, 7, 6, 5, 4, 3, 2, 1, 0], [25, 24, 23, 22, 21, 20, 19, 18, 17, 16, 15, 14, 13, 12, 11, 10, 9, 8, 7, 6, 5, 4, 3, 2, 1, 0], [26, 25, 24, 23, 22, 21, 20, 19, 18, 17, 16, 15, 14, 13, 12, 11, 10, 9, 8, 7, 6, 5, 4, 3, 2, 1, 0], [22, 21, 20, 19, 18, 17, 16, 15, 14, 13, 12, 11, 10, 9, 8, 7, 6, 5, 4, 3, 2, 1, 0], [22, 21, 20, 19, 18, 17, 16, 15, 14, 13, 12, 11, 10, 9, 8, 7, 6, 5, 4, 3, 2, 1, 0], [29, 28, 22, 21, 20, 19, 18, 17, 16, 15, 14, 13, 12, 11, 10, 9, 8, 7, 6, 5, 4, 3, 2, 1, 0], [30, 29, 28, 22, 21, 20, 19, 18, 17, 16, 15, 14, 13, 12, 11, 10, 9, 8, 7, 6, 5, 4, 3, 2, 1, 0], [31, 30, 29, 28, 27, 26, 25, 24, 23, 22, 21, 20, 19, 18, 17, 16, 15, 14, 13, 12, 11, 10, 9, 8, 7, 6, 5, 4, 3, 2, 1, 0], [32, 31, 30, 29, 28, 27, 26, 25, 24, 23, 22, 21, 20, 19, 18, 17, 16, 15, 14, 13, 12, 11, 10, 9, 8, 7, 6, 5, 4, 3, 2, 1, 0], [33, 32, 31, 30, 29, 28, 27, 26, 25, 24, 23, 22, 21, 20, 19, 18, 17, 16, 15, 14, 13, 12, 11, 10, 9, 8, 7, 6, 5, 4, 3, 2, 1, 0], [34, 33, 32, 31, 30, 29, 28, 27, 26, 25, 24, 23, 22, 21, 20, 19, 18, 17, 16, 15, 14, 13, 12, 11, 10, 9, 8, 7, 6, 5, 4, 3, 2, 1, 0], [35, 34, 33, 32, 31, 30, 29, 28, 27, 26, 25, 24, 23, 22, 21, 20, 19, 18, 17, 16, 15, 14, 13, 12, 11, 10, 9, 8, 7, 6, 5, 4, 3, 2, 1, 0], [35, 34, 33, 32, 31, 30, 29, 28, 27, 26, 25, 24, 23, 22, 21, 20, 19, 18, 17, 16, 15, 14, 13, 12, 11, 10, 9, 8, 7, 6, 5, 4, 3, 2, 1, 0], [37, 36, 35, 34, 33, 32, 31, 30, 29, 28, 27, 26, 25, 24, 23, 22, 21, 20, 19, 18, 17, 16, 15, 14, 13, 12, 11, 10, 9, 8, 7, 6, 5, 4, 3, 2, 1, 0], [38, 37, 36, 35, 34, 33, 32, 31, 30, 29, 28, 27, 26, 25, 24, 23, 22, 21, 20, 19, 18, 17, 16, 15, 14, 13, 12, 11, 10, 9, 8, 7, 6, 5, 4, 3, 2, 1, 0], [35, 34, 33, 32, 31, 30, 29, 28, 27, 26, 25, 24, 23, 22, 21, 20, 19, 18, 17, 16, 15, 14, 13, 12, 11, 10, 9, 8, 7, 6, 5, 4, 3, 2, 1, 0], [40, 35, 34, 33, 32, 31, 30, 29, 28, 27, 26, 25, 24, 23, 22, 21, 20, 19, 18, 17, 16, 15, 14, 13, 12, 11, 10, 9, 8, 7, 6, 5, 4, 3, 2, 1, 0], [35, 34, 33, 32, 31, 30, 29, 28, 27, 26, 25, 24, 23, 22, 21, 20, 19, 18, 17, 16, 15, 14, 13, 12, 11, 10, 9, 8, 7, 6, 5, 4, 3, 2, 1, 0], [42, 41, 40, 35, 34, 33, 32, 31, 30, 29, 28, 27, 26, 25, 24, 23, 22, 21, 20, 19, 18, 17, 16, 15, 14, 13, 12, 11, 10, 9, 8, 7, 6, 5, 4, 3, 2, 1, 0], [43, 42, 41, 40, 35, 34, 33, 32, 31, 30, 29, 28, 27, 26, 25, 24, 23, 22, 21, 20, 19, 18, 17, 16, 15, 14, 13, 12, 11, 10, 9, 8, 7, 6, 5, 4, 3, 2, 1, 0], [44, 43, 42, 41, 40, 39, 38, 37, 36, 35, 34, 33, 32, 31, 30, 29, 28, 27, 26, 25, 24, 23, 22, 21, 20, 19, 18, 17, 16, 15, 14, 13, 12, 11, 10, 9, 8, 7, 6, 5, 4, 3, 2, 1, 0], [45, 44, 43, 42, 41, 40, 39, 38, 37, 36, 35, 34, 33, 32, 31, 30, 29, 28, 27, 26, 25, 24, 23, 22, 21, 20, 19, 18, 17, 16, 15, 14, 13, 12, 11, 10, 9, 8, 7, 6, 5, 4, 3, 2, 1, 0], [46, 45, 44, 43, 42, 41, 40, 39, 38, 37, 36, 35, 34, 33, 32, 31, 30, 29, 28, 27, 26, 25, 24, 23, 22, 21, 20, 19, 18, 17, 16, 15, 14, 13, 12, 11, 10, 9, 8, 7, 6, 5, 4, 3, 2, 1, 0], [47, 46, 45, 44, 43, 42, 41, 40, 39, 38, 37, 36, 35, 34, 33, 32, 31, 30, 29, 28, 27, 26, 25, 24, 23, 22, 21, 20, 19, 18, 17, 16, 15, 14, 13, 12, 11, 10, 9, 8, 7, 6, 5, 4, 3, 2, 1, 0], [48, 47, 46, 45, 44, 43, 42, 41, 40, 39, 38, 37, 36, 35, 34, 33, 32, 31, 30, 29, 28, 27, 26, 25, 24, 23, 22, 21, 20, 19, 18, 17, 16, 15, 14, 13, 12, 11, 10, 9, 8, 7, 6, 5, 4, 3, 2, 1, 0], [49, 48, 47, 46, 45, 44, 43, 42, 41, 40, 39, 38, 37, 36, 35, 34, 33, 32, 31, 30, 29, 28, 27, 26, 25, 24, 23, 22, 21, 20, 19, 18, 17, 16, 15, 14, 13, 12, 11, 10, 9, 8, 7, 6, 5, 4, 3, 2, 1, 0], [50, 49, 48, 47, 46, 45, 44, 43, 42, 41, 40, 39, 38, 37, 36, 35, 34, 33, 32, 31, 30, 29, 28, 27, 26, 25, 24, 23, 22, 21, 20, 19, 18, 17, 16, 15, 14, 13, 12, 11, 10, 9, 8, 7, 6, 5, 4, 3, 2, 1, 0], [51, 50, 49, 48, 47, 46, 45, 44, 43, 42, 41, 40, 39, 38, 37, 36, 35, 34, 33, 32, 31, 30, 29, 28, 27, 26, 25, 24, 23, 22, 21, 20, 19, 18, 17, 16, 15, 14, 13, 12, 11, 10, 9, 8, 7, 6, 5, 4, 3, 2, 1, 0], [51, 50, 49, 48, 47, 46, 45, 44, 43, 42, 41, 40, 39, 38, 37, 36, 35, 34, 33, 32, 31, 30, 29, 28, 27, 26, 25, 24, 23, 22, 21, 20, 19, 18, 17, 16, 15, 14, 13, 12, 11, 10, 9, 8, 7, 6, 5, 4, 3, 2, 1, 0], [53, 52, 51, 50, 49, 48, 47, 46, 45, 44, 43, 42, 41, 40, 39, 38, 37, 36, 35, 34, 33, 32, 31, 30, 29, 28, 27, 26, 25, 24, 23, 22, 21, 20, 19, 18, 17, 16, 15, 14, 13, 12, 11, 10, 9, 8, 7, 6, 5, 4, 3, 2, 1, 0], [54, 53, 52, 51, 50, 49, 48, 47, 46, 45, 44, 43, 42, 41, 40, 39, 38, 37, 36, 35, 34, 33, 32, 31, 30, 29, 28, 27, 26, 25, 24, 23, 22, 21, 20, 19, 18, 17, 16, 15, 14, 13, 12, 11, 10, 9, 8, 7, 6, 5, 4, 3, 2, 1, 0], [55, 54, 53, 52, 51, 50, 49, 48, 47, 46, 45, 44, 43, 42, 41, 40, 39, 38, 37, 36, 35, 34, 33, 32, 31, 30, 29, 28, 27, 26, 25, 24, 23, 22, 21, 20, 19, 18, 17, 16, 15, 14, 13, 12, 11, 10, 9, 8, 7, 6, 5, 4, 3, 2, 1, 0], [51, 50, 49, 48, 47, 46, 45, 44, 43, 42, 41, 40, 39, 38, 37, 36, 35, 34, 33, 32, 31, 30, 29, 28, 27, 26, 25, 24, 23, 22, 21, 20, 19, 18, 17, 16, 15, 14, 13, 12, 11, 10, 9, 8, 7, 6, 5, 4, 3, 2, 1, 0], [57, 56, 55, 54, 53, 52, 51, 50, 49, 48, 47, 46, 45, 44, 43, 42, 41, 40, 39, 38, 37, 36, 35, 34, 33, 32, 31, 30, 29, 28, 27, 26, 25, 24, 23, 22, 21, 20, 19, 18, 17, 16, 15, 14, 13, 12, 11, 10, 9, 8, 7, 6, 5, 4, 3, 2, 1, 0], [58, 57, 56, 55, 54, 53, 52, 51, 50, 49, 48, 47, 46, 45, 44, 43, 42, 41, 40, 39, 38, 37, 36, 35, 34, 33, 32, 31, 30, 29, 28, 27, 26, 25, 24, 23, 22, 21, 20, 19, 18, 17, 16, 15, 14, 13, 12, 11, 10, 9, 8, 7, 6, 5, 4, 3, 2, 1, 0], [59, 58, 57, 56, 55, 54, 53, 52, 51, 50, 49, 48, 47, 46, 45, 44, 43, 42, 41, 40, 39, 38, 37, 36, 35, 34, 33, 32, 31, 30, 29, 28, 27, 26, 25, 24, 23, 22, 21, 20, 19, 18, 17, 16, 15, 14, 13, 12, 11, 10, 9, 8, 7, 6, 5, 4, 3, 2, 1, 0]] ops.toList 58) = some true := by kernel_rfl
end Go.Proofs.Ytpkhbbboedoldaa
