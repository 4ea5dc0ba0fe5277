/- What the functions of chapter 09 come to, in plain words: Bands, Unsure. -/
import Derived.Test.YtpkhbbboedoldaaPJ
import Derived.Test.YtpkhbbboedoldaaDW
import Derived.Test.YtpkhbbboedoldaaDB
namespace Go.Proofs.Ytpkhbbboedoldaa
open Go Go.Sx
set_option linter.all false

theorem e22 {k : Nat} (hk : 20 ≤ k) {m : Mp} {l : List Int} : F22 k m l = some (if (chkLeg m l).2 = 0 then (alls m l, 0) else ([], (chkLeg m l).2)) := by
  unfold F22
  rw [e20 hk, Option.bind_some]
  by_cases h : (chkLeg m l).2 = 0
  · obtain ⟨g, gl⟩ := chkLeg_good.1 h
    rw [if_neg (by simp [h]), if_pos h, e65 hk g.h1 (by have := g.b1; have := gl.len; omega), Option.bind_some]
  · rw [if_pos (by simpa using h), if_neg h]

/-- A loop that compares two lists of one length. -/
theorem same_loop {α : Type} {a b : List α} {L : Nat → Int → Option (Bool ⊕ Unit)} {eq : α → α → Bool} (hab : a = b) (heq : ∀ x ∈ a, eq x x = true) (h62 : a.length < 2 ^ 62)
    (hL : ∀ n c, L (n + 1) c = if (decide (c < (a.length : Int))) then ((idx a c).bind fun x => (idx b c).bind fun y => if (!eq x y) then (some (.inl false)) else (L n (w64 (c + 1)))) else (some (.inr ()))) :
    ∀ (suf pre : List α) (n : Nat) (c : Int), a = pre ++ suf → c = pre.length → suf.length < n → L n c = some (.inr ()) := by
  subst hab
  intro suf
  induction suf with
  | nil =>
    intro pre n c hl hc hn
    obtain ⟨n, rfl⟩ : ∃ m, n = m + 1 := ⟨n - 1, by simp at hn; omega⟩
    rw [hL, if_neg (by rw [hl]; simp; omega)]
  | cons x suf ih =>
    intro pre n c hl hc hn
    obtain ⟨n, rfl⟩ : ∃ m, n = m + 1 := ⟨n - 1, by simp at hn; omega⟩
    have hlen : a.length = pre.length + (suf.length + 1) := by rw [hl]; simp
    simp only [List.length_cons] at hn
    rw [hL, if_pos (by simp; omega)]
    rw [show idx a c = some x by rw [hl]; exact idx_mid hc, Option.bind_some, Option.bind_some, heq x (by rw [hl]; simp), if_neg (by simp), w64_id (by omega) (by omega)]
    exact ih (pre ++ [x]) n (c + 1) (by simp [hl]) (by simp; omega) (by omega)

theorem e23 {k : Nat} {a : List Sp} (h : a.length < k) (h62 : a.length < 2 ^ 62) : F23 k a a = some true := by
  unfold F23
  rw [if_neg (by simp), same_loop (a := a) (b := a) (L := F23L1 a a) (eq := fun x y => (x.Lo == y.Lo) && (x.Hi == y.Hi)) rfl (by simp) h62 (fun n c => rfl) a [] k 0 rfl rfl h, Option.bind_some, outK_inr]
theorem e26 {k : Nat} {a : List Int} (h : a.length < k) (h62 : a.length < 2 ^ 62) : F26 k a a = some true := by
  unfold F26
  rw [if_neg (by simp), same_loop (a := a) (b := a) (L := F26L1 a a) (eq := fun x y => x == y) rfl (by simp) h62 (fun n c => rfl) a [] k 0 rfl rfl h, Option.bind_some, outK_inr]
theorem e29 {k : Nat} {a : List Pr} (h : a.length < k) (h62 : a.length < 2 ^ 62) : F29 k a a = some true := by
  unfold F29
  rw [if_neg (by simp), same_loop (a := a) (b := a) (L := F29L1 a a) (eq := fun x y => (x.A == y.A) && (x.B == y.B)) rfl (by simp) h62 (fun n c => rfl) a [] k 0 rfl rfl h, Option.bind_some, outK_inr]

/-- Which spans are of several bands, from a number on. -/
def doubt : List Sp → Int → List Int
  | [], _ => []
  | s :: ss, i => if s.Lo < s.Hi then i :: doubt ss (i + 1) else doubt ss (i + 1)
theorem doubt_len : ∀ (l : List Sp) (i : Int), (doubt l i).length ≤ l.length := by
  intro l
  induction l with
  | nil => intro i; simp [doubt]
  | cons s ss ih => intro i; simp only [doubt]; have := ih (i + 1); split <;> simp <;> omega

theorem e66L1 {x : List Sp} (h8 : x.length ≤ 8) : ∀ (suf pre : List Sp) (n : Nat) (c : Int) (acc : List Int), x = pre ++ suf → c = pre.length → suf.length < n → acc.length ≤ pre.length → F66L1 x n (c, acc) = some (.inr (acc ++ doubt suf c)) := by
  intro suf
  induction suf with
  | nil =>
    intro pre n c acc hl hc hn ha
    obtain ⟨n, rfl⟩ : ∃ m, n = m + 1 := ⟨n - 1, by simp at hn; omega⟩
    rw [F66L1, if_neg (by rw [hl]; simp; omega)]; simp [doubt]
  | cons s suf ih =>
    intro pre n c acc hl hc hn ha
    obtain ⟨n, rfl⟩ : ∃ m, n = m + 1 := ⟨n - 1, by simp at hn; omega⟩
    have hlen : x.length = pre.length + (suf.length + 1) := by rw [hl]; simp
    simp only [List.length_cons] at hn
    have hix : idx x c = some s := by rw [hl]; exact idx_mid hc
    rw [F66L1, if_pos (by simp; omega)]
    simp only [hix, Option.bind_some, doubt]
    by_cases h : s.Lo < s.Hi
    · rw [if_pos (by simpa using h), if_pos h, need_true (by simp; omega), Option.bind_some, w64_id (by omega) (by omega), ih (pre ++ [s]) n (c + 1) _ (by simp [hl]) (by simp; omega) (by omega) (by simp; omega)]
      simp
    · rw [if_neg (by simpa using h), if_neg h, w64_id (by omega) (by omega), ih (pre ++ [s]) n (c + 1) _ (by simp [hl]) (by simp; omega) (by omega) (by simp; omega)]
theorem e24L1 {x : S_colour_chart} (h8 : x.bands.length ≤ 8) (hb : ∀ s ∈ x.bands, s.Lo ≤ s.Hi) : ∀ (suf pre : List Sp) (n : Nat) (c : Int) (acc : List Int), x.bands = pre ++ suf → c = pre.length → suf.length < n → acc.length ≤ pre.length → F24L1 x n (c, acc) = some (.inr (acc ++ doubt suf c)) := by
  intro suf
  induction suf with
  | nil =>
    intro pre n c acc hl hc hn ha
    obtain ⟨n, rfl⟩ : ∃ m, n = m + 1 := ⟨n - 1, by simp at hn; omega⟩
    rw [F24L1, if_neg (by rw [hl]; simp; omega)]; simp [doubt]
  | cons s suf ih =>
    intro pre n c acc hl hc hn ha
    obtain ⟨n, rfl⟩ : ∃ m, n = m + 1 := ⟨n - 1, by simp at hn; omega⟩
    have hlen : x.bands.length = pre.length + (suf.length + 1) := by rw [hl]; simp
    simp only [List.length_cons] at hn
    have hix : idx x.bands c = some s := by rw [hl]; exact idx_mid hc
    have hs := hb s (by rw [hl]; simp)
    rw [F24L1, if_pos (by simp; omega)]
    simp only [hix, Option.bind_some, doubt]
    by_cases h : s.Lo < s.Hi
    · rw [if_pos (by simp; omega), if_pos h, need_true (by simp; omega), Option.bind_some, w64_id (by omega) (by omega), ih (pre ++ [s]) n (c + 1) _ (by simp [hl]) (by simp; omega) (by omega) (by simp; omega)]
      simp
    · rw [if_neg (by simp; omega), if_neg h, w64_id (by omega) (by omega), ih (pre ++ [s]) n (c + 1) _ (by simp [hl]) (by simp; omega) (by omega) (by simp; omega)]

theorem alls_le {m : Mp} {l : List Int} (g : GoodM m) : ∀ s ∈ alls m l, s.Lo ≤ s.Hi := by
  intro s hs
  simp only [alls, List.mem_map] at hs
  obtain ⟨t, ht, rfl⟩ := hs
  have := band_mono l (g.hei t ht).2.1
  simp only [bandS]; omega
def unsure (m : Mp) (l : List Int) : List Int × Int := if (chkLeg m l).2 = 0 then (doubt (alls m l) 0, 0) else ([], (chkLeg m l).2)
theorem e24 {k : Nat} (hk : 20 ≤ k) {m : Mp} {l : List Int} : F24 k m l = some (unsure m l) := by
  unfold F24 unsure
  by_cases h : (chkLeg m l).2 = 0
  · obtain ⟨g, gl⟩ := chkLeg_good.1 h
    obtain ⟨v, e, _⟩ := e64 hk g gl
    have h8 : (alls m l).length ≤ 8 := by have := g.h1; simpa [alls] using this
    rw [e, if_pos h, Option.bind_some, if_neg (by simp), Option.bind_some, e24L1 h8 (alls_le g) (alls m l) [] k 0 [] rfl rfl (by omega) (by simp), Option.bind_some, outK_inr]
    rfl
  · rw [e64_bad hk h, if_neg h, Option.bind_some, if_pos (by simpa using h)]
theorem e66 {k : Nat} (hk : 20 ≤ k) {m : Mp} {l : List Int} (hh : m.Heights.length ≤ 8) (hl : l.length ≤ 5) : F66 k m l = some (doubt (alls m l) 0) := by
  unfold F66
  have h8 : (alls m l).length ≤ 8 := by simpa [alls] using hh
  rw [e65 hk hh hl, Option.bind_some, e66L1 h8 (alls m l) [] k 0 [] rfl rfl (by omega) (by simp), Option.bind_some, outK_inr]
  rfl
theorem e25 {k : Nat} (hk : 20 ≤ k) {m : Mp} {l : List Int} : F25 k m l = some (unsure m l) := by
  unfold F25 unsure
  rw [e20 hk, Option.bind_some]
  by_cases h : (chkLeg m l).2 = 0
  · obtain ⟨g, gl⟩ := chkLeg_good.1 h
    rw [if_neg (by simp [h]), if_pos h, e66 hk g.h1 (by have := g.b1; have := gl.len; omega), Option.bind_some]
  · rw [if_pos (by simpa using h), if_neg h]
end Go.Proofs.Ytpkhbbboedoldaa
