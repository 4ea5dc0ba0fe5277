/- The number of points that a legend leaves unsure is what the search for the best one adds up. -/
import Derived.Test.YtpkhbbboedoldaaPV
import Derived.Test.YtpkhbbboedoldaaPG
namespace Go.Proofs.Ytpkhbbboedoldaa
open Go Go.Sx
set_option linter.all false

theorem leg_legE {step : Int} : ∀ (l : List Int) (bs : List Sp) (prev : Option Int) (i : Int), l.length = bs.length → ((∃ u, legE step prev l bs i = .inr u) ↔ Leg step prev bs l) := by
  intro l
  induction l with
  | nil =>
    intro bs prev i h
    cases bs with
    | nil => exact ⟨fun _ => trivial, fun _ => ⟨(), rfl⟩⟩
    | cons b bs => simp at h
  | cons n ns ih =>
    intro bs prev i h
    cases bs with
    | nil => simp at h
    | cons b bs =>
      rw [legE_cons, Leg]
      have hok : okN b.Lo b.Hi n = true ↔ (b.Lo ≤ n ∧ n ≤ b.Hi) := by unfold okN; rw [Bool.and_eq_true, decide_eq_true_eq, decide_eq_true_eq]
      by_cases h1 : okN b.Lo b.Hi n = true
      · rw [if_pos h1]
        cases h2 : early step prev n with
        | true => rw [if_pos rfl]; simp
        | false =>
          rw [if_neg (by simp), ih bs (some n) (i + 1) (by simpa using h)]
          exact ⟨fun h3 => ⟨hok.1 h1, rfl, h3⟩, fun h3 => h3.2.2⟩
      · rw [if_neg h1]
        exact ⟨fun ⟨u, hu⟩ => by simp at hu, fun h3 => absurd (hok.2 h3.1) h1⟩
theorem goodL_leg {m : Mp} {l : List Int} : GoodL m l ↔ Leg m.Step none m.Borders l := by
  constructor
  · intro g
    rw [← leg_legE l m.Borders none 0 g.len, legE_good l m.Borders none 0 g.len]
    exact ⟨g.inb, g.gap, fun q h => by cases h⟩
  · intro h
    have hl := h.len
    rw [← leg_legE l m.Borders none 0 hl, legE_good l m.Borders none 0 hl] at h
    exact ⟨hl, h.1, h.2.1⟩

/-- Numbers that grow. -/
def Srt : Option Int → List Int → Prop
  | _, [] => True
  | prev, n :: ns => (∀ q, prev = some q → q < n) ∧ Srt (some n) ns
theorem Srt.lt : ∀ {l : List Int} {p : Int}, Srt (some p) l → ∀ x ∈ l, p < x := by
  intro l
  induction l with
  | nil => intro p _ x hx; cases hx
  | cons n ns ih =>
    intro p h x hx
    have h1 := h.1 p rfl
    rcases List.mem_cons.1 hx with h2 | h2
    · omega
    · have := ih h.2 x h2; omega
theorem Leg.srt {step : Int} (hs : 1 ≤ step) : ∀ {bs : List Sp} {l : List Int} {prev : Option Int}, Leg step prev bs l → Srt prev l := by
  intro bs
  induction bs with
  | nil => intro l prev h; cases l with
    | nil => trivial
    | cons n ns => exact h.elim
  | cons b bs ih => intro l prev h; cases l with
    | nil => exact h.elim
    | cons n ns =>
      refine ⟨fun q hq => ?_, ih h.2.2⟩
      have := h.2.1
      rw [hq] at this
      simp [early] at this
      omega
theorem countP_disj {A B C : Sp → Bool} : ∀ (hs : List Sp), (∀ h ∈ hs, C h = (A h || B h) ∧ (A h && B h) = false) → hs.countP A + hs.countP B = hs.countP C := by
  intro hs
  induction hs with
  | nil => intro _; rfl
  | cons h hs ih =>
    intro hh
    have h1 := hh h (by simp)
    have h2 := ih fun x hx => hh x (by simp [hx])
    rw [List.countP_cons, List.countP_cons, List.countP_cons, h1.1]
    have h3 := h1.2
    cases hA : A h <;> cases hB : B h <;> rw [hA, hB] at h3 <;> simp at h3 ⊢ <;> omega
def preP (prev : Option Int) (h : Sp) : Bool := match prev with | none => false | some p => partsB h p
theorem cost_count {hs : List Sp} : ∀ (l : List Int) (prev : Option Int), Srt prev l → cost hs prev l = ((hs.countP fun h => l.any (partsB h) && !preP prev h : Nat) : Int) := by
  intro l
  induction l with
  | nil =>
    intro prev _
    have : (hs.countP fun h => ([] : List Int).any (partsB h) && !preP prev h) = 0 := by rw [List.countP_eq_zero]; simp
    rw [this]; rfl
  | cons n ns ih =>
    intro prev h
    rw [cost, ih (some n) h.2, newN]
    rw [← Int.natCast_add]
    congr 1
    refine countP_disj hs fun x hx => ?_
    have hnew : newP prev n x = (partsB x n && !preP prev x) := by
      unfold newP preP
      cases prev <;> rfl
    rw [hnew, List.any_cons]
    have hkey : ns.any (partsB x) = true → preP prev x = true → partsB x n = true := by
      intro h1 h2
      obtain ⟨y, hy, h3⟩ := List.any_eq_true.1 h1
      have h4 := h.2.lt y hy
      cases prev with
      | none => cases h2
      | some p =>
        have h5 := h.1 p rfl
        simp only [preP, partsB, Bool.and_eq_true, decide_eq_true_eq] at h2 h3 ⊢
        omega
    change ((partsB x n || ns.any (partsB x)) && !preP prev x) = ((ns.any (partsB x) && !partsB x n) || (partsB x n && !preP prev x)) ∧ ((ns.any (partsB x) && !partsB x n) && (partsB x n && !preP prev x)) = false
    cases h1 : ns.any (partsB x) <;> cases h2 : preP prev x <;> cases h3 : partsB x n <;> simp_all

theorem doubt_count : ∀ (l : List Sp) (i : Int), (doubt l i).length = l.countP fun s => decide (s.Lo < s.Hi) := by
  intro l
  induction l with
  | nil => intro i; rfl
  | cons s ss ih =>
    intro i
    rw [doubt, List.countP_cons]
    by_cases h : s.Lo < s.Hi
    · rw [if_pos h, List.length_cons, ih]; simp [h]
    · rw [if_neg h, ih]; simp [h]
theorem band_parts {l : List Int} (hi : Inc l) (s : Sp) : decide (((band l s.Lo : Nat) : Int) < ((band l s.Hi : Nat) : Int)) = l.any (partsB s) := by
  rw [Bool.eq_iff_iff, decide_eq_true_eq, List.any_eq_true]
  have hH := band_le l s.Hi
  have hL := band_le l s.Lo
  constructor
  · intro h
    refine ⟨l[band l s.Lo]!, by rw [getElem!_pos l _ (by omega)]; exact List.getElem_mem _, ?_⟩
    have h1 := band_at l s.Lo (by omega)
    have h2 := band_lt l s.Hi (band l s.Lo) (by omega)
    unfold partsB
    rw [Bool.and_eq_true, decide_eq_true_eq, decide_eq_true_eq]; omega
  · rintro ⟨b, hb, h⟩
    obtain ⟨i, hl, rfl⟩ := List.getElem_of_mem hb
    rw [← getElem!_pos l i hl] at h
    unfold partsB at h
    rw [Bool.and_eq_true, decide_eq_true_eq, decide_eq_true_eq] at h
    have h1 : band l s.Lo ≤ i := by
      by_cases h2 : i < band l s.Lo
      · have := band_lt l s.Lo i h2; omega
      · omega
    have h3 : i < band l s.Hi := by
      by_cases h2 : band l s.Hi ≤ i
      · have h4 := band_at l s.Hi (by omega)
        by_cases h5 : band l s.Hi = i
        · rw [h5] at h4; omega
        · have := hi (band l s.Hi) i (by omega) hl; omega
      · omega
    omega
/-- How many points a good legend leaves unsure. -/
theorem unsure_cost {m : Mp} {l : List Int} (g : GoodM m) (gl : GoodL m l) : ((doubt (alls m l) 0).length : Int) = cost m.Heights none l := by
  rw [cost_count l none ((goodL_leg.1 gl).srt g.st0), doubt_count, alls, List.countP_map]
  congr 1
  refine List.countP_congr fun s _ => ?_
  have := band_parts (gl.inc g) s
  change decide (((band l s.Lo : Nat) : Int) < ((band l s.Hi : Nat) : Int)) = true ↔ _
  rw [this]
  simp [preP]
theorem alls_at2 {m : Mp} {l : List Int} {i : Nat} (h : i < m.Heights.length) : (alls m l)[i]! = ⟨(band l m.Heights[i]!.Lo : Int), (band l m.Heights[i]!.Hi : Int)⟩ := by
  rw [getElem!_pos _ i (by simp [alls]; omega), getElem!_pos _ i (by omega)]; simp [alls, bandS]
theorem hei_at2 {m : Mp} (g : GoodM m) {i : Nat} (h : i < m.Heights.length) : 0 ≤ m.Heights[i]!.Lo ∧ m.Heights[i]!.Lo ≤ m.Heights[i]!.Hi ∧ m.Heights[i]!.Hi ≤ 9000 := by
  refine g.hei _ ?_
  rw [getElem!_pos _ i h]; exact List.getElem_mem _
theorem goodL_bd {m : Mp} (g : GoodM m) {l : List Int} (gl : GoodL m l) : ∀ y ∈ l, 0 ≤ y ∧ y ≤ 9000 := by
  intro y hy
  obtain ⟨i, hi, rfl⟩ := List.getElem_of_mem hy
  have h1 := gl.inb i hi
  have h2 := g.bor m.Borders[i]! (by rw [getElem!_pos m.Borders i (by have := gl.len; omega)]; exact List.getElem_mem _)
  rw [getElem!_pos l i hi] at h1
  omega
end Go.Proofs.Ytpkhbbboedoldaa
