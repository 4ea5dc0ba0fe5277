/- That sheet.Name answers this of any string. -/
import Derived.Test.YtkcgfceihpampaaGreatDoorNA
import Derived.Test.YtkcgfceihpampaaGreatDoorTab
import Derived.WalkKit
import Derived.Tactics
import Derived.Tactics2
import Derived.LoopTactic
import Derived.Laws.Runes
import Derived.Laws.RangeString
import Derived.Laws.RangeAny
import Derived.Laws.Strings
import Derived.Laws.Strings2
import Derived.Laws.Strings3
import Derived.Laws.Closers25
import Derived.KernelRfl
namespace Go.Proofs.YtkcgfceihpampaaGreatDoor
open Go Go.RowKit
set_option linter.all false

theorem width_pos (s : ByteArray) (pos : Nat) (h : pos < s.size) : 1 ≤ (Utf8.decode s pos).2 := by
  by_cases ha : (s[pos]'h).toNat < 128
  · rw [decode_ascii s pos h ha];exact Nat.le_refl _
  · exact (decode_high s pos h (by omega)).2
theorem nameF_end (s : ByteArray) (f pos : Nat) (h : ¬ pos < s.size) : nameF s f pos = true := by
  cases f with
  | zero => rfl
  | succ f => simp [nameF, h]

theorem bad50 {s : ByteArray} {pos f : Nat} (hc : nameF s f pos = nameF s s.size 0) (hb : s.size ≤ pos + f) (hp : pos < s.size) (hk : okRune pos (Utf8.decode s pos).1 = false) : nameB s = false := by
  obtain ⟨f, rfl⟩ : ∃ g, f = g + 1 := ⟨f - 1, by omega⟩
  unfold nameB;rw [← hc, nameF, if_pos hp, hk]; rfl
theorem good50 {s : ByteArray} {pos f : Nat} (hc : nameF s f pos = nameF s s.size 0) (hb : s.size ≤ pos + f) (hp : pos < s.size) (hk : okRune pos (Utf8.decode s pos).1 = true) : ∃ g, nameF s g (pos + (Utf8.decode s pos).2) = nameF s s.size 0 ∧ s.size ≤ pos + (Utf8.decode s pos).2 + g := by
  obtain ⟨f, rfl⟩ : ∃ g, f = g + 1 := ⟨f - 1, by omega⟩
  have hw := width_pos s pos hp;rw [nameF, if_pos hp, hk, if_pos rfl] at hc;exact ⟨f, hc, by omega⟩

set_option maxRecDepth 1000000 in
theorem walk50 (s : ByteArray) (w : World) :
    Calls Tryz.prog 50 #[.string s] w fun e w' => e = .returned (.bool (nameB s)) ∧ ∃ pos, w' = w.iter s pos := by
  go_enter Tryz.func50, Tryz.ntmps50
  go_wp2
  go_loopw [] (fun w' => ∃ (pos f : Nat), w' = w.iter s pos ∧ nameF s f pos = nameF s s.size 0 ∧ s.size ≤ pos + f) (fun w' => s.size - w'.iterPos w.heap.size)
  case atStart => exact ⟨0, s.size, rfl, rfl, by omega⟩
  case round =>
    obtain ⟨pos, f, rfl, hc, hb⟩ := hrel;by_cases hp : pos < s.size
    · have hnx : ∀ ty, (Instr.next (.pointer (some ⟨w.heap.size, 0, none⟩)) true ty).run Tryz.prog (w.iter s pos) = _ := fun ty => run_next_any w s pos ty hp;have hwd := width_pos s pos hp
      go_wp2
      all_goals first
        | (have hk : okRune pos (Utf8.decode s pos).1 = false := by (simp only [okRune, Bool.or_eq_false_iff, Bool.and_eq_false_iff, Bool.not_eq_true', Bool.not_eq_false', decide_eq_false_iff_not, beq_eq_false_iff_ne, ne_eq, Bool.not_eq_true, Bool.and_eq_true, Bool.or_eq_true, decide_eq_true_eq, beq_iff_eq] at *; omega)
           go_ret
           exact ⟨by rw [bad50 hc hb hp hk]; rfl, _, rfl⟩)
        | (have hk : okRune pos (Utf8.decode s pos).1 = true := by (simp only [okRune, Bool.or_eq_false_iff, Bool.and_eq_false_iff, Bool.not_eq_true', Bool.not_eq_false', decide_eq_false_iff_not, beq_eq_false_iff_ne, ne_eq, Bool.not_eq_true, Bool.and_eq_true, Bool.or_eq_true, decide_eq_true_eq, beq_iff_eq] at *; omega)
           go_roundw
           case rel => obtain ⟨g, h1, h2⟩ := good50 hc hb hp hk; exact ⟨_, g, rfl, h1, h2⟩
           case measure => simp; omega)
        | (have hk : okRune pos (Utf8.decode s pos).1 = true := by (simp only [okRune, Bool.or_eq_false_iff, Bool.and_eq_false_iff, Bool.not_eq_true', Bool.not_eq_false', decide_eq_false_iff_not, beq_eq_false_iff_ne, ne_eq, Bool.not_eq_true, Bool.and_eq_true, Bool.or_eq_true, decide_eq_true_eq, beq_iff_eq] at *; omega)
           obtain ⟨g, h1, h2⟩ := good50 hc hb hp hk
           exact ⟨⟨_, g, rfl, h1, h2⟩, by simp; omega⟩)
        | skip
    · have hnx : ∀ ty, (Instr.next (.pointer (some ⟨w.heap.size, 0, none⟩)) true ty).run Tryz.prog (w.iter s pos) = _ := fun ty => run_next_end w s pos ty hp;rw [nameF_end s f pos hp] at hc;have hz : nameB s = (decide (0 < s.size) && decide (s.size ≤ 16)) := by unfold nameB; rw [← hc]; rfl
      clear hc
      go_wp2
      all_goals (
        rename_i hl
        go_ret
        rw [ByteArray.toList_eq] at hl;refine ⟨?_, _, rfl⟩
        rw [hz])
      · have h0 : s.size = 0 := by
          have h1 : s.data.toList.length = s.size := rfl;rw [hl] at h1; simpa using h1.symm
        rw [h0]; rfl
      · have h0 : 0 < s.size := by
          have h1 : s.data.toList.length = s.size := rfl;have h2 := List.length_pos_iff.2 hl;omega
        rw [decide_eq_true h0, Bool.true_and];show Ending.returned (Value.bool (!s.toList.isEmpty && decide ((s.size : Int) ≤ 16))) = _;have h3 : s.toList.isEmpty = false := List.isEmpty_eq_false_iff.2 (by rw [ByteArray.toList_eq]; exact hl);rw [h3];simp;omega
open Go.Sx in
theorem ct50 {s : ByteArray} {res : Bool} (h : F50 s = some res) : PCall Tryz.prog 50 [(.v (.string s))] (vb res) := by
  obtain rfl := Option.some.inj h;refine ⟨⟨_, Tryz.func50, by kernel_rfl, by kernel_rfl⟩, ?_⟩;intro Z w cs hz hy hs hr
  have h0 : cs = #[.string s] := by
    have hl : cs.size = 1 := hs;have h1 : cs[0]? = some cs[0] := Array.getElem?_eq_getElem (by omega);have h2 := hr 0 _ _ rfl h1
    have h3 : cs[0] = .string s := by
      generalize cs[0] = c at h2;cases h2; rfl
    apply Array.ext
    · simpa using hl
    · intro i hi _;have : i = 0 := by omega
      subst this;simpa using h3
  subst h0;refine (walk50 s w).mono ?_;rintro e w' ⟨rfl, pos, rfl⟩;exact ⟨_, _, rfl, Grow.alloc Z w (.stringIter s pos), .d _ _ (.v _ rfl)⟩
section
open Go.Sx
theorem ab275 (cs : List D) : PCall Tryz.prog 275 [.agg cs] (vi 1) := by
  refine PCall.of_awp tt_ok (N := 3) Tryz.func275 rfl (by kernel_rfl) rfl (Nat.le_of_ble_eq_true rfl) rfl ?_;refine awp_pr (awp_seq (awp_tight tt_ok .nil (by kernel_rfl) ?_));show awp _ _ _ _ _ _ _ _;refine awp_seq (awp_tight tt_ok .nil (by kernel_rfl) ?_);show awp _ _ _ _ _ _ _ _;exact awp_ret (main_ret (by kernel_rfl))
theorem ab276 (cs : List D) : PCall Tryz.prog 276 [.agg cs] (vi 1) := by
  refine PCall.of_awp tt_ok (N := 3) Tryz.func276 rfl (by kernel_rfl) rfl (Nat.le_of_ble_eq_true rfl) rfl ?_;refine awp_pr (awp_seq (awp_tight tt_ok .nil (by kernel_rfl) ?_));show awp _ _ _ _ _ _ _ _;refine awp_seq (awp_tight tt_ok .nil (by kernel_rfl) ?_);show awp _ _ _ _ _ _ _ _;exact awp_ret (main_ret (by kernel_rfl))
theorem ab277 (cs : List D) : PCall Tryz.prog 277 [.agg cs] (vi 2) := by
  refine PCall.of_awp tt_ok (N := 3) Tryz.func277 rfl (by kernel_rfl) rfl (Nat.le_of_ble_eq_true rfl) rfl ?_;refine awp_pr (awp_seq (awp_tight tt_ok .nil (by kernel_rfl) ?_));show awp _ _ _ _ _ _ _ _;refine awp_seq (awp_tight tt_ok .nil (by kernel_rfl) ?_);show awp _ _ _ _ _ _ _ _;exact awp_ret (main_ret (by kernel_rfl))
theorem ab278 (cs : List D) : PCall Tryz.prog 278 [.agg cs] (vi 2) := by
  refine PCall.of_awp tt_ok (N := 3) Tryz.func278 rfl (by kernel_rfl) rfl (Nat.le_of_ble_eq_true rfl) rfl ?_;refine awp_pr (awp_seq (awp_tight tt_ok .nil (by kernel_rfl) ?_));show awp _ _ _ _ _ _ _ _;refine awp_seq (awp_tight tt_ok .nil (by kernel_rfl) ?_);show awp _ _ _ _ _ _ _ _;exact awp_ret (main_ret (by kernel_rfl))
/-- The method 'about' of a note's value. -/
theorem about_ok {o : Option Nat} {cs : List D} {n : Int} (h : aboutF o = some n) : ∃ t f, o = some t ∧ invF Tryz.prog t "hachure/sheet.about" = some f ∧ PCall Tryz.prog f [.agg cs] (vi n) := by
  unfold aboutF at h;split at h <;> simp only [Option.some.injEq, reduceCtorEq] at h <;> subst h
  · exact ⟨287, 275, rfl, by kernel_rfl, ab275 cs⟩
  · exact ⟨288, 276, rfl, by kernel_rfl, ab276 cs⟩
  · exact ⟨289, 277, rfl, by kernel_rfl, ab277 cs⟩
  · exact ⟨290, 278, rfl, by kernel_rfl, ab278 cs⟩
end
end Go.Proofs.YtkcgfceihpampaaGreatDoor
