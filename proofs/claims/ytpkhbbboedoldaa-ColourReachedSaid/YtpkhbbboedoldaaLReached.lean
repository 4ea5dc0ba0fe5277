/- a point whose height is just one of its span is in one of its bands, and is sure; each of its bands is met by some height -/
import Derived.Test.YtpkhbbboedoldaaRows
import Derived.Test.YtpkhbbboedoldaaCU
import Derived.Test.YtpkhbbboedoldaaPI
namespace Go.Proofs.Ytpkhbbboedoldaa.colourReached
open Go Go.ChangeShapes Go.WideShapes Go.ChangeAt Go.RowKit Go.Sx
set_option linter.all false
set_option maxRecDepth 100000

def wf66 (x : S__3quint16) : Prop := (Fits .u16) x.e0 ∧ (Fits .u16) x.e1 ∧ (Fits .u16) x.e2
def clo66 (x : S__3quint16) : List D := [(.v (.int .u16 x.e0)), (.v (.int .u16 x.e1)), (.v (.int .u16 x.e2))]
theorem opn66 {H : Type} {enc : TypeId × Value → H} {w : World} : Opens enc Try.prog w 66 clo66 wf66 :=
  opens_array (n := 3) (e := 65) (sz := 1) (m := 3) (by kernel_rfl) (by kernel_rfl) (by kernel_rfl) rfl (opens_fit (t := 65) (k := .u16) (by kernel_rfl)) (fun vs => (match vs with | [v0, v1, v2] => ⟨v0, v1, v2⟩ | _ => default : S__3quint16)) clo66 wf66
    (fun vs h => match vs, h with | [v0, v1, v2], _ => rfl) (fun vs h hw => match vs, h, hw with | [v0, v1, v2], _, hw => ⟨hw v0 (by simp), hw v1 (by simp), hw v2 (by simp)⟩)
theorem opn53 {H : Type} {enc : TypeId × Value → H} {w : World} : Opens enc Try.prog w 53 (fun xs : List Int => [D.list false 1 xs.length (xs.flatMap cel65)]) (fun xs => (∀ x ∈ xs, (Fits .u16) x) ∧ xs.length ≤ maxLen) :=
  opens_slice (e := 65) (sz := 1) (by kernel_rfl) (by kernel_rfl) (by omega) cel65_len (opens_fit (t := 65) (k := .u16) (by kernel_rfl))
def wf51 (x : S_api_ClPair) : Prop := (Fits .i64) x.A ∧ (Fits .i64) x.B
def clo51 (x : S_api_ClPair) : List D := [(di x.A), (di x.B)]
theorem opn51 {H : Type} {enc : TypeId × Value → H} {w : World} : Opens enc Try.prog w 51 clo51 wf51 :=
  opens_structG (l := [(3, 0), (3, 1)]) (n := 2) (by kernel_rfl) (by kernel_rfl) (by kernel_rfl) (opensG_cons (sz := 1) (by kernel_rfl) (opens_fit (t := 3) (k := .i64) (by kernel_rfl)) (opensG_cons (sz := 1) (by kernel_rfl) (opens_fit (t := 3) (k := .i64) (by kernel_rfl)) opensG_nil)) (fun v => (⟨v.1, v.2.1⟩ : S_api_ClPair)) clo51 wf51 (fun v => rfl) (fun v h => ⟨h.1, h.2.1⟩)
theorem opn23 {H : Type} {enc : TypeId × Value → H} {w : World} : Opens enc Try.prog w 23 (fun xs : List S_api_ClPair => [D.list false 2 xs.length (xs.flatMap cel51)]) (fun xs => (∀ x ∈ xs, wf51 x) ∧ xs.length ≤ maxLen) :=
  opens_slice (e := 51) (sz := 2) (by kernel_rfl) (by kernel_rfl) (by omega) cel51_len opn51
def wf60 (x : S_api_Span) : Prop := (Fits .i64) x.Lo ∧ (Fits .i64) x.Hi
def clo60 (x : S_api_Span) : List D := [(di x.Lo), (di x.Hi)]
theorem opn60 {H : Type} {enc : TypeId × Value → H} {w : World} : Opens enc Try.prog w 60 clo60 wf60 :=
  opens_structG (l := [(3, 0), (3, 1)]) (n := 2) (by kernel_rfl) (by kernel_rfl) (by kernel_rfl) (opensG_cons (sz := 1) (by kernel_rfl) (opens_fit (t := 3) (k := .i64) (by kernel_rfl)) (opensG_cons (sz := 1) (by kernel_rfl) (opens_fit (t := 3) (k := .i64) (by kernel_rfl)) opensG_nil)) (fun v => (⟨v.1, v.2.1⟩ : S_api_Span)) clo60 wf60 (fun v => rfl) (fun v h => ⟨h.1, h.2.1⟩)
theorem opn22 {H : Type} {enc : TypeId × Value → H} {w : World} : Opens enc Try.prog w 22 (fun xs : List S_api_Span => [D.list false 2 xs.length (xs.flatMap cel60)]) (fun xs => (∀ x ∈ xs, wf60 x) ∧ xs.length ≤ maxLen) :=
  opens_slice (e := 60) (sz := 2) (by kernel_rfl) (by kernel_rfl) (by omega) cel60_len opn60
def wf25 (x : S_api_ClMap) : Prop := (fun xs => (∀ x ∈ xs, wf60 x) ∧ xs.length ≤ maxLen) x.Borders ∧ (Fits .i64) x.Step ∧ (fun xs => (∀ x ∈ xs, wf60 x) ∧ xs.length ≤ maxLen) x.Heights ∧ (fun xs => (∀ x ∈ xs, wf51 x) ∧ xs.length ≤ maxLen) x.Sides ∧ (Fits .i64) x.Inks ∧ (fun xs => (∀ x ∈ xs, wf51 x) ∧ xs.length ≤ maxLen) x.Like
def clo25 (x : S_api_ClMap) : List D := [(L60 x.Borders), (di x.Step), (L60 x.Heights), (L51 x.Sides), (di x.Inks), (L51 x.Like)]
theorem opn25 {H : Type} {enc : TypeId × Value → H} {w : World} : Opens enc Try.prog w 25 clo25 wf25 :=
  opens_structG (l := [(22, 0), (3, 1), (22, 2), (23, 3), (3, 4), (23, 5)]) (n := 6) (by kernel_rfl) (by kernel_rfl) (by kernel_rfl) (opensG_cons (sz := 1) (by kernel_rfl) opn22 (opensG_cons (sz := 1) (by kernel_rfl) (opens_fit (t := 3) (k := .i64) (by kernel_rfl)) (opensG_cons (sz := 1) (by kernel_rfl) opn22 (opensG_cons (sz := 1) (by kernel_rfl) opn23 (opensG_cons (sz := 1) (by kernel_rfl) (opens_fit (t := 3) (k := .i64) (by kernel_rfl)) (opensG_cons (sz := 1) (by kernel_rfl) opn23 opensG_nil)))))) (fun v => (⟨v.1, v.2.1, v.2.2.1, v.2.2.2.1, v.2.2.2.2.1, v.2.2.2.2.2.1⟩ : S_api_ClMap)) clo25 wf25 (fun v => rfl) (fun v h => ⟨h.1, h.2.1, h.2.2.1, h.2.2.2.1, h.2.2.2.2.1, h.2.2.2.2.2.1⟩)

theorem own : ownKnob Try.prog.godebug = none := by kernel_rfl
theorem laid : laidOutB Try.prog = true := by kernel_rfl
def argv (x : S_api_ClMap × ((List Int) × (S__3quint16 × Unit))) : List D := [(fun x => D.agg (clo25 x)) x.1, (fun xs : List Int => D.list false 1 xs.length (xs.flatMap cel65)) x.2.1, (fun x => D.agg (clo66 x)) x.2.2.1]
def argw (x : S_api_ClMap × ((List Int) × (S__3quint16 × Unit))) : Prop := wf25 x.1 ∧ (fun xs => (∀ x ∈ xs, (Fits .u16) x) ∧ xs.length ≤ maxLen) x.2.1 ∧ wf66 x.2.2.1 ∧ True
theorem opens {H : Type} {enc : TypeId × Value → H} {w : World} : ArgsOpen enc Try.prog w [25, 53, 66] argv argw := (args_cons (arg_struct (by kernel_rfl) opn25) (args_cons (arg_one (u := (.slice 65)) (by kernel_rfl) rfl opn53) (args_cons (arg_array (n := 3) (e := 65) (by kernel_rfl) opn66) args_nil)))
theorem walk (x : S_api_ClMap × ((List Int) × (S__3quint16 × Unit))) (h : argw x) : PCall Try.prog 8 (argv x) (.d (.v (.bool true))) := ct8 (law8 x.1 x.2.1 x.2.2.1 ⟨fun n hn => (h.2.1.1 n hn).u16, by have := h.2.1.2; unfold maxLen at this; omega⟩ h.2.2.1.1.u16 h.2.2.1.2.1.u16 h.2.2.1.2.2.u16)

theorem lifted (os : Os) (started : os.Started) (H : Type) (enc : TypeId × Value → H) :
    ReturnsInHanded {} Try.checked os 8 .any (Rows.colourReachedSpec.pre6 enc Try.prog Try.f8 Rows.colourReachedRow.domain false) (Rows.colourReachedSpec.post enc Try.prog Try.f8 false true false false) := by
  refine returnsInHanded_of_change (C := Try.checked) own started (by kernel_rfl) Try.func8
    (ChangeSpec.witness6 (enc := enc) (C := Try.checked) false ⟨#[], #[.agg #[.slice none 0 0, .int .i64 0, .slice none 0 0, .slice none 0 0, .int .i64 0, .slice none 0 0], .slice none 0 0, .agg #[.int .u16 0, .int .u16 0, .int .u16 0]], []⟩ 12 (by kernel_rfl) (by kernel_rfl) (by kernel_rfl) (by kernel_rfl)) ?_
  intro W base args ds gs before hval hW hcnd _
  refine lawPost (P := Try.prog) (g := argv) (wf := argw) laid (show (Try.f8.params.toList.all fun t => Try.prog.readableRec t && decide (t < Try.prog.types.size)) = true by kernel_rfl) rfl (show Try.f8.resultTypes = #[4] by kernel_rfl) (show Try.prog.underlying 4 = some .bool by kernel_rfl) ?_ ?_ walk hval hW
  · intro ds hd
    have hs : Try.f8.params.size = 3 := by kernel_rfl
    rw [hs] at hd
    match ds, hd with
    | [d0, d1, d2], _ => rfl
  · have hp : Try.f8.params.toList = [25, 53, 66] := by kernel_rfl
    rw [hp]; exact opens

theorem over : Rows.colourReachedRow.holds Try.pinned (OpenSpec.ofChange Rows.colourReachedSpec) :=
  OpenClaim.holds_of_wide 8 Try.f8 rfl rfl rfl rfl rfl rfl rfl ⟨rfl, rfl, rfl, rfl, rfl⟩ rfl rfl rfl rfl rfl (by kernel_rfl) Try.func8 (by kernel_rfl)
    (of_decide_eq_true (by kernel_rfl)) (by unfold Func.isWrapper; first | (rw [if_pos (by decide +kernel)]; kernel_rfl) | (rw [if_neg (by decide +kernel)]; exact ⟨rfl, rfl⟩))
    (fun os started H enc _ => lifted os started H enc)

theorem proved : Rows.ColourReachedSaid := over
end Go.Proofs.Ytpkhbbboedoldaa.colourReached
