/- The examples of the document hold of edge. -/
import Derived.Test.YtallnifoeahpiaaRows
import Derived.Test.YtallnifoeahpiaaCLD
import Derived.Test.YtallnifoeahpiaaPA
namespace Go.Proofs.Ytallnifoeahpiaa.edgeKnown
open Go Go.ChangeShapes Go.WideShapes Go.ChangeAt Go.RowKit Go.Sx
set_option linter.all false
set_option maxRecDepth 100000



theorem own : ownKnob Try.prog.godebug = none := by kernel_rfl
theorem laid : laidOutB Try.prog = true := by kernel_rfl
def argv (x : Unit) : List D := []
def argw (x : Unit) : Prop := True
theorem opens {H : Type} {enc : TypeId × Value → H} {w : World} : ArgsOpen enc Try.prog w [] argv argw := args_nil
theorem walk (x : Unit) (h : argw x) : PCall Try.prog 6 (argv x) (.d (.v (.bool true))) := ct6 (law6 )

theorem lifted (os : Os) (started : os.Started) (H : Type) (enc : TypeId × Value → H) :
    ReturnsInHanded {} Try.checked os 6 .any (Rows.edgeKnownSpec.pre6 enc Try.prog Try.f6 Rows.edgeKnownRow.domain false) (Rows.edgeKnownSpec.post enc Try.prog Try.f6 false true false false) := by
  refine returnsInHanded_of_change (C := Try.checked) own started (by kernel_rfl) Try.func6
    (ChangeSpec.witness6 (enc := enc) (C := Try.checked) false ⟨#[], #[], []⟩ 12 (by kernel_rfl) (by kernel_rfl) (by kernel_rfl) (by kernel_rfl)) ?_
  intro W base args ds gs before hval hW hcnd _
  refine lawPost (P := Try.prog) (g := argv) (wf := argw) laid (show (Try.f6.params.toList.all fun t => Try.prog.readableRec t && decide (t < Try.prog.types.size)) = true by kernel_rfl) rfl (show Try.f6.resultTypes = #[4] by kernel_rfl) (show Try.prog.underlying 4 = some .bool by kernel_rfl) ?_ ?_ walk hval hW
  · intro ds hd
    have hs : Try.f6.params.size = 0 := by kernel_rfl
    rw [hs] at hd
    match ds, hd with
    | [], _ => rfl
  · have hp : Try.f6.params.toList = [] := by kernel_rfl
    rw [hp]; exact opens

theorem over : Rows.edgeKnownRow.holds Try.pinned (OpenSpec.ofChange Rows.edgeKnownSpec) :=
  OpenClaim.holds_of_wide 6 Try.f6 rfl rfl rfl rfl rfl rfl rfl ⟨rfl, rfl, rfl, rfl, rfl⟩ rfl rfl rfl rfl rfl (by kernel_rfl) Try.func6 (by kernel_rfl)
    (of_decide_eq_true (by kernel_rfl)) (by unfold Func.isWrapper; first | (rw [if_pos (by decide +kernel)]; kernel_rfl) | (rw [if_neg (by decide +kernel)]; exact ⟨rfl, rfl⟩))
    (fun os started H enc _ => lifted os started H enc)

theorem proved : Rows.EdgeKnownSaid := over
end Go.Proofs.Ytallnifoeahpiaa.edgeKnown
