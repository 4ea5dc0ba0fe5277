/- With one more point of an edge, or one more edge, no Range is wider, and Least costs no less, if changes still agree, for any case. -/
import Derived.Test.YtallnifoeahpiaaRows
import Derived.Test.YtallnifoeahpiaaCLJ
import Derived.Test.YtallnifoeahpiaaRM
namespace Go.Proofs.Ytallnifoeahpiaa.edgeMore
open Go Go.ChangeShapes Go.WideShapes Go.ChangeAt Go.RowKit Go.Sx
set_option linter.all false
set_option maxRecDepth 100000

def wf72 (x:S__2quint8):Prop:=(Fits .u8) x.e0∧(Fits .u8) x.e1
def clo72 (x:S__2quint8):List D:=[(.v (.int .u8 x.e0)),(.v (.int .u8 x.e1))]
theorem opn72 {H:Type} {enc:TypeId×Value→H} {w:World}:Opens enc Try.prog w 72 clo72 wf72 :=
 opens_array (n:=2) (e:=5) (sz:=1) (m:=2) (by kernel_rfl) (by kernel_rfl) (by kernel_rfl) rfl (opens_fit (t:=5) (k := .u8) (by kernel_rfl)) (fun vs=>(match vs with|[v0,v1]=>⟨v0,v1⟩|_=>default:S__2quint8)) clo72 wf72
  (fun vs h=>match vs,h with|[v0,v1],_=>rfl) (fun vs h hw=>match vs,h,hw with|[v0,v1],_,hw=>⟨hw v0 (by simp),hw v1 (by simp)⟩)
def wf74 (x:S_api_EdPoint):Prop:=(Fits .i64) x.A∧(Fits .i64) x.B
def clo74 (x:S_api_EdPoint):List D:=[(di x.A),(di x.B)]
theorem opn74 {H:Type} {enc:TypeId×Value→H} {w:World}:Opens enc Try.prog w 74 clo74 wf74 :=
 opens_structG (l:=[(3,0),(3,1)]) (n:=2) (by kernel_rfl) (by kernel_rfl) (by kernel_rfl) (opensG_cons (sz:=1) (by kernel_rfl) (opens_fit (t:=3) (k := .i64) (by kernel_rfl)) (opensG_cons (sz:=1) (by kernel_rfl) (opens_fit (t:=3) (k := .i64) (by kernel_rfl)) opensG_nil)) (fun v=>(⟨v.1,v.2.1⟩:S_api_EdPoint)) clo74 wf74 (fun v=>rfl) (fun v h=>⟨h.1,h.2.1⟩)
theorem opn69 {H:Type} {enc:TypeId×Value→H} {w:World}:Opens enc Try.prog w 69 (fun xs:List S_api_EdPoint=>[D.list false 2 xs.length (xs.flatMap cel74)]) (fun xs=>(∀x∈xs,wf74 x)∧xs.length≤maxLen) :=
 opens_slice (e:=74) (sz:=2) (by kernel_rfl) (by kernel_rfl) (by omega) cel74_len opn74
def wf71 (x:S_api_EdEdge):Prop:=(Fits .i64) x.A∧(Fits .i64) x.B∧(fun xs=>(∀x∈xs,wf74 x)∧xs.length≤maxLen) x.Points
def clo71 (x:S_api_EdEdge):List D:=[(di x.A),(di x.B),(L74 x.Points)]
theorem opn71 {H:Type} {enc:TypeId×Value→H} {w:World}:Opens enc Try.prog w 71 clo71 wf71 :=
 opens_structG (l:=[(3,0),(3,1),(69,2)]) (n:=3) (by kernel_rfl) (by kernel_rfl) (by kernel_rfl) (opensG_cons (sz:=1) (by kernel_rfl) (opens_fit (t:=3) (k := .i64) (by kernel_rfl)) (opensG_cons (sz:=1) (by kernel_rfl) (opens_fit (t:=3) (k := .i64) (by kernel_rfl)) (opensG_cons (sz:=1) (by kernel_rfl) opn69 opensG_nil))) (fun v=>(⟨v.1,v.2.1,v.2.2.1⟩:S_api_EdEdge)) clo71 wf71 (fun v=>rfl) (fun v h=>⟨h.1,h.2.1,h.2.2.1⟩)
theorem opn23 {H:Type} {enc:TypeId×Value→H} {w:World}:Opens enc Try.prog w 23 (fun xs:List S_api_EdEdge=>[D.list false 3 xs.length (xs.flatMap cel71)]) (fun xs=>(∀x∈xs,wf71 x)∧xs.length≤maxLen) :=
 opens_slice (e:=71) (sz:=3) (by kernel_rfl) (by kernel_rfl) (by omega) cel71_len opn71
def wf66 (x:S_api_EdSheet):Prop:=(fun _=>True) x.Name∧(Fits .i64) x.Weight∧(Fits .i64) x.Most
def clo66 (x:S_api_EdSheet):List D:=[(.v (.string x.Name)),(di x.Weight),(di x.Most)]
theorem opn66 {H:Type} {enc:TypeId×Value→H} {w:World}:Opens enc Try.prog w 66 clo66 wf66 :=
 opens_structG (l:=[(9,0),(3,1),(3,2)]) (n:=3) (by kernel_rfl) (by kernel_rfl) (by kernel_rfl) (opensG_cons (sz:=1) (by kernel_rfl) (opens_str (t:=9) (by kernel_rfl)) (opensG_cons (sz:=1) (by kernel_rfl) (opens_fit (t:=3) (k := .i64) (by kernel_rfl)) (opensG_cons (sz:=1) (by kernel_rfl) (opens_fit (t:=3) (k := .i64) (by kernel_rfl)) opensG_nil))) (fun v=>(⟨v.1,v.2.1,v.2.2.1⟩:S_api_EdSheet)) clo66 wf66 (fun v=>rfl) (fun v h=>⟨h.1,h.2.1,h.2.2.1⟩)
theorem opn22 {H:Type} {enc:TypeId×Value→H} {w:World}:Opens enc Try.prog w 22 (fun xs:List S_api_EdSheet=>[D.list false 3 xs.length (xs.flatMap cel66)]) (fun xs=>(∀x∈xs,wf66 x)∧xs.length≤maxLen) :=
 opens_slice (e:=66) (sz:=3) (by kernel_rfl) (by kernel_rfl) (by omega) cel66_len opn66
def wf25 (x:S_api_EdCase):Prop:=(Fits .i64) x.Tol∧(fun xs=>(∀x∈xs,wf66 x)∧xs.length≤maxLen) x.Sheets∧(fun xs=>(∀x∈xs,wf71 x)∧xs.length≤maxLen) x.Edges
def clo25 (x:S_api_EdCase):List D:=[(di x.Tol),(L66 x.Sheets),(L71 x.Edges)]
theorem opn25 {H:Type} {enc:TypeId×Value→H} {w:World}:Opens enc Try.prog w 25 clo25 wf25 :=
 opens_structG (l:=[(3,0),(22,1),(23,2)]) (n:=3) (by kernel_rfl) (by kernel_rfl) (by kernel_rfl) (opensG_cons (sz:=1) (by kernel_rfl) (opens_fit (t:=3) (k := .i64) (by kernel_rfl)) (opensG_cons (sz:=1) (by kernel_rfl) opn22 (opensG_cons (sz:=1) (by kernel_rfl) opn23 opensG_nil))) (fun v=>(⟨v.1,v.2.1,v.2.2.1⟩:S_api_EdCase)) clo25 wf25 (fun v=>rfl) (fun v h=>⟨h.1,h.2.1,h.2.2.1⟩)

theorem own:ownKnob Try.prog.godebug=none:=by kernel_rfl
theorem laid:laidOutB Try.prog=true:=by kernel_rfl
def argv (x:S_api_EdCase×(S_api_EdEdge×(S__2quint8×Unit))):List D:=[(fun x=>D.agg (clo25 x)) x.1,(fun x=>D.agg (clo71 x)) x.2.1,(fun x=>D.agg (clo72 x)) x.2.2.1]
def argw (x:S_api_EdCase×(S_api_EdEdge×(S__2quint8×Unit))):Prop:=wf25 x.1∧wf71 x.2.1∧wf72 x.2.2.1∧True
theorem opens {H:Type} {enc:TypeId×Value→H} {w:World}:ArgsOpen enc Try.prog w [25,71,72] argv argw:=(args_cons (arg_struct (by kernel_rfl) opn25) (args_cons (arg_struct (by kernel_rfl) opn71) (args_cons (arg_array (n:=2) (e:=5) (by kernel_rfl) opn72) args_nil)))
theorem walk (x:S_api_EdCase×(S_api_EdEdge×(S__2quint8×Unit))) (h:argw x):PCall Try.prog 12 (argv x) (.d (.v (.bool true))):=ct12 (law12 x.1 x.2.1 x.2.2.1 h.2.2.1.1.u8 h.2.2.1.2.u8)

theorem lifted (os:Os) (started:os.Started) (H:Type) (enc:TypeId×Value→H) :
 ReturnsInHanded {} Try.checked os 12 .any (Rows.edgeMoreSpec.pre6 enc Try.prog Try.f12 Rows.edgeMoreRow.domain false) (Rows.edgeMoreSpec.post enc Try.prog Try.f12 false true false false):=by
 refine returnsInHanded_of_change (C:=Try.checked) own started (by kernel_rfl) Try.func12
  (ChangeSpec.witness6 (enc:=enc) (C:=Try.checked) false ⟨#[],#[.agg #[.int .i64 0,.slice none 0 0,.slice none 0 0],.agg #[.int .i64 0,.int .i64 0,.slice none 0 0],.agg #[.int .u8 0,.int .u8 0]],[]⟩ 12 (by kernel_rfl) (by kernel_rfl) (by kernel_rfl) (by kernel_rfl)) ?_
 intro W base args ds gs before hval hW hcnd _
 refine lawPost (P:=Try.prog) (g:=argv) (wf:=argw) laid (show (Try.f12.params.toList.all fun t=>Try.prog.readableRec t&&decide (t<Try.prog.types.size))=true by kernel_rfl) rfl (show Try.f12.resultTypes = #[4] by kernel_rfl) (show Try.prog.underlying 4=some .bool by kernel_rfl) ?_ ?_ walk hval hW
 ·intro ds hd
  have hs:Try.f12.params.size=3:=by kernel_rfl
  rw [hs] at hd
  match ds,hd with
  | [d0,d1,d2],_=>rfl
 ·have hp:Try.f12.params.toList=[25,71,72]:=by kernel_rfl
  rw [hp];exact opens

theorem over:Rows.edgeMoreRow.holds Try.pinned (OpenSpec.ofChange Rows.edgeMoreSpec) :=
 OpenClaim.holds_of_wide 12 Try.f12 rfl rfl rfl rfl rfl rfl rfl ⟨rfl,rfl,rfl,rfl,rfl⟩ rfl rfl rfl rfl rfl (by kernel_rfl) Try.func12 (by kernel_rfl)
  (of_decide_eq_true (by kernel_rfl)) (by unfold Func.isWrapper;first|(rw [if_pos (by decide +kernel)];kernel_rfl)|(rw [if_neg (by decide +kernel)];exact ⟨rfl,rfl⟩))
  (fun os started H enc _=>lifted os started H enc)

theorem proved:Rows.EdgeMoreSaid:=over
end Go.Proofs.Ytallnifoeahpiaa.edgeMore
