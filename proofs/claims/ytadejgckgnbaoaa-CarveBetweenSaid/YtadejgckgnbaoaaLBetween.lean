/- The statement CarveBetween: any good surface is within Bounds at each point, the lower and the upper ends are good surfaces, and each height between them is that of some good surface; for any row, surface, point and height. -/
import Derived.Test.YtadejgckgnbaoaaRows
import Derived.Test.YtadejgckgnbaoaaCBW
import Derived.Test.YtadejgckgnbaoaaPT
namespace Go.Proofs.Ytadejgckgnbaoaa.carveBetween
open Go Go.ChangeShapes Go.WideShapes Go.ChangeAt Go.RowKit Go.Sx
set_option linter.all false
set_option maxRecDepth 100000

def wf52 (x : S__2quint8) : Prop := (Fits .u8) x.e0 ∧ (Fits .u8) x.e1
def clo52 (x : S__2quint8) : List D := [(.v (.int .u8 x.e0)), (.v (.int .u8 x.e1))]
theorem opn52 {H : Type} {enc : TypeId × Value → H} {w : World} : Opens enc Try.prog w 52 clo52 wf52 :=
  opens_array (n := 2) (e := 5) (sz := 1) (m := 2) (by kernel_rfl) (by kernel_rfl) (by kernel_rfl) rfl (opens_fit (t := 5) (k := .u8) (by kernel_rfl)) (fun vs => (match vs with | [v0, v1] => ⟨v0, v1⟩ | _ => default : S__2quint8)) clo52 wf52
    (fun vs h => match vs, h with | [v0, v1], _ => rfl) (fun vs h hw => match vs, h, hw with | [v0, v1], _, hw => ⟨hw v0 (by simp), hw v1 (by simp)⟩)
theorem opn51 {H : Type} {enc : TypeId × Value → H} {w : World} : Opens enc Try.prog w 51 (fun xs : List Int => [D.list false 1 xs.length (xs.flatMap cel5)]) (fun xs => (∀ x ∈ xs, (Fits .u8) x) ∧ xs.length ≤ maxLen) :=
  opens_slice (e := 5) (sz := 1) (by kernel_rfl) (by kernel_rfl) (by omega) cel5_len (opens_fit (t := 5) (k := .u8) (by kernel_rfl))
def wf58 (x : S_api_CvPoint) : Prop := (Fits .i64) x.Board ∧ (Fits .i64) x.Lo ∧ (Fits .i64) x.Hi
def clo58 (x : S_api_CvPoint) : List D := [(di x.Board), (di x.Lo), (di x.Hi)]
theorem opn58 {H : Type} {enc : TypeId × Value → H} {w : World} : Opens enc Try.prog w 58 clo58 wf58 :=
  opens_structG (l := [(3, 0), (3, 1), (3, 2)]) (n := 3) (by kernel_rfl) (by kernel_rfl) (by kernel_rfl) (opensG_cons (sz := 1) (by kernel_rfl) (opens_fit (t := 3) (k := .i64) (by kernel_rfl)) (opensG_cons (sz := 1) (by kernel_rfl) (opens_fit (t := 3) (k := .i64) (by kernel_rfl)) (opensG_cons (sz := 1) (by kernel_rfl) (opens_fit (t := 3) (k := .i64) (by kernel_rfl)) opensG_nil))) (fun v => (⟨v.1, v.2.1, v.2.2.1⟩ : S_api_CvPoint)) clo58 wf58 (fun v => rfl) (fun v h => ⟨h.1, h.2.1, h.2.2.1⟩)
theorem opn22 {H : Type} {enc : TypeId × Value → H} {w : World} : Opens enc Try.prog w 22 (fun xs : List S_api_CvPoint => [D.list false 3 xs.length (xs.flatMap cel58)]) (fun xs => (∀ x ∈ xs, wf58 x) ∧ xs.length ≤ maxLen) :=
  opens_slice (e := 58) (sz := 3) (by kernel_rfl) (by kernel_rfl) (by omega) cel58_len opn58
def wf24 (x : S_api_CvRow) : Prop := (Fits .i64) x.Steep ∧ (fun xs => (∀ x ∈ xs, wf58 x) ∧ xs.length ≤ maxLen) x.Points
def clo24 (x : S_api_CvRow) : List D := [(di x.Steep), (L58 x.Points)]
theorem opn24 {H : Type} {enc : TypeId × Value → H} {w : World} : Opens enc Try.prog w 24 clo24 wf24 :=
  opens_structG (l := [(3, 0), (22, 1)]) (n := 2) (by kernel_rfl) (by kernel_rfl) (by kernel_rfl) (opensG_cons (sz := 1) (by kernel_rfl) (opens_fit (t := 3) (k := .i64) (by kernel_rfl)) (opensG_cons (sz := 1) (by kernel_rfl) opn22 opensG_nil)) (fun v => (⟨v.1, v.2.1⟩ : S_api_CvRow)) clo24 wf24 (fun v => rfl) (fun v h => ⟨h.1, h.2.1⟩)

theorem own : ownKnob Try.prog.godebug = none := by kernel_rfl
theorem laid : laidOutB Try.prog = true := by kernel_rfl
def argv (x : S_api_CvRow × ((List Int) × (S__2quint8 × Unit))) : List D := [(fun x => D.agg (clo24 x)) x.1, (fun xs : List Int => D.list false 1 xs.length (xs.flatMap cel5)) x.2.1, (fun x => D.agg (clo52 x)) x.2.2.1]
def argw (x : S_api_CvRow × ((List Int) × (S__2quint8 × Unit))) : Prop := wf24 x.1 ∧ (fun xs => (∀ x ∈ xs, (Fits .u8) x) ∧ xs.length ≤ maxLen) x.2.1 ∧ wf52 x.2.2.1 ∧ True
theorem opens {H : Type} {enc : TypeId × Value → H} {w : World} : ArgsOpen enc Try.prog w [24, 51, 52] argv argw := (args_cons (arg_struct (by kernel_rfl) opn24) (args_cons (arg_one (u := (.slice 5)) (by kernel_rfl) rfl opn51) (args_cons (arg_array (n := 2) (e := 5) (by kernel_rfl) opn52) args_nil)))
theorem walk (x : S_api_CvRow × ((List Int) × (S__2quint8 × Unit))) (h : argw x) : PCall Try.prog 7 (argv x) (.d (.v (.bool true))) := ct7 (law7 x.1 x.2.1 x.2.2.1 (fun n hn => (h.2.1.1 n hn).u8) (by have := h.2.1.2; unfold maxLen at this; omega) h.2.2.1.1.u8 h.2.2.1.2.u8)

theorem lifted (os : Os) (started : os.Started) (H : Type) (enc : TypeId × Value → H) :
    ReturnsInHanded {} Try.checked os 7 .any (Rows.carveBetweenSpec.pre6 enc Try.prog Try.f7 Rows.carveBetweenRow.domain false) (Rows.carveBetweenSpec.post enc Try.prog Try.f7 false true false false) := by
  refine returnsInHanded_of_change (C := Try.checked) own started (by kernel_rfl) Try.func7
    (ChangeSpec.witness6 (enc := enc) (C := Try.checked) false ⟨#[], #[.agg #[.int .i64 0, .slice none 0 0], .slice none 0 0, .agg #[.int .u8 0, .int .u8 0]], []⟩ 12 (by kernel_rfl) (by kernel_rfl) (by kernel_rfl) (by kernel_rfl)) ?_
  intro W base args ds gs before hval hW hcnd _
  refine lawPost (P := Try.prog) (g := argv) (wf := argw) laid (show (Try.f7.params.toList.all fun t => Try.prog.readableRec t && decide (t < Try.prog.types.size)) = true by kernel_rfl) rfl (show Try.f7.resultTypes = #[4] by kernel_rfl) (show Try.prog.underlying 4 = some .bool by kernel_rfl) ?_ ?_ walk hval hW
  · intro ds hd
    have hs : Try.f7.params.size = 3 := by kernel_rfl
    rw [hs] at hd
    match ds, hd with
    | [d0, d1, d2], _ => rfl
  · have hp : Try.f7.params.toList = [24, 51, 52] := by kernel_rfl
    rw [hp]; exact opens

theorem over : Rows.carveBetweenRow.holds Try.pinned (OpenSpec.ofChange Rows.carveBetweenSpec) :=
  OpenClaim.holds_of_wide 7 Try.f7 rfl rfl rfl rfl rfl rfl rfl ⟨rfl, rfl, rfl, rfl, rfl⟩ rfl rfl rfl rfl rfl (by kernel_rfl) Try.func7 (by kernel_rfl)
    (of_decide_eq_true (by kernel_rfl)) (by unfold Func.isWrapper; first | (rw [if_pos (by decide +kernel)]; kernel_rfl) | (rw [if_neg (by decide +kernel)]; exact ⟨rfl, rfl⟩))
    (fun os started H enc _ => lifted os started H enc)

theorem proved : Rows.CarveBetweenSaid := over
end Go.Proofs.Ytadejgckgnbaoaa.carveBetween
