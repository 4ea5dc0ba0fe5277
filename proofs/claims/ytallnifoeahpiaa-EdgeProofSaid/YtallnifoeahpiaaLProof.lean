/- The bound of any proof is at most what any changes that agree cost; that of Proof is just what those of Least cost, or, with ErrDown, above what any changes cost, for any case, proof and changes. -/
import Derived.Test.YtallnifoeahpiaaRows
import Derived.Test.YtallnifoeahpiaaCLF
import Derived.Test.YtallnifoeahpiaaRL
namespace Go.Proofs.Ytallnifoeahpiaa.edgeProof
open Go Go.ChangeShapes Go.WideShapes Go.ChangeAt Go.RowKit Go.Sx
set_option linter.all false
set_option maxRecDepth 100000

theorem opn47 {H:Type} {enc:TypeId×Value→H} {w:World}:Opens enc Try.prog w 47 (fun xs:List Int=>[D.list false 1 xs.length (xs.flatMap cel5)]) (fun xs=>(∀x∈xs,(Fits .u8) x)∧xs.length≤maxLen) :=
 opens_slice (e:=5) (sz:=1) (by kernel_rfl) (by kernel_rfl) (by omega) cel5_len (opens_fit (t:=5) (k := .u8) (by kernel_rfl))
theorem opn52 {H:Type} {enc:TypeId×Value→H} {w:World}:Opens enc Try.prog w 52 (fun xs:List Int=>[D.list false 1 xs.length (xs.flatMap cel54)]) (fun xs=>(∀x∈xs,(Fits .i16) x)∧xs.length≤maxLen) :=
 opens_slice (e:=54) (sz:=1) (by kernel_rfl) (by kernel_rfl) (by omega) cel54_len (opens_fit (t:=54) (k := .i16) (by kernel_rfl))
def wf74 (x:S_api_EdPoint):Prop:=(Fits .i64) x.A∧(Fits .i64) x.B
def clo74 (x:S_api_EdPoint):List D:=[(di x.A),(di x.B)]
theorem opn74 {H:Type} {enc:TypeId×Value→H} {w:World}:Opens enc Try.prog w 74 clo74 wf74 :=
 opens_structG (l:=[(3,0),(3,1)]) (n:=2) (by kernel_rfl) (by kernel_rfl) (by kernel_rfl) (opensG_cons (sz:=1) (by kernel_rfl) (opens_fit (t:=3) (k := .i64) (by kernel_rfl)) (opensG_cons (sz:=1) (by kernel_rfl) (opens_fit (t:=3) (k := .i64) (by kernel_rfl)) opensG_nil)) (fun v=>(⟨v.1,v.2.1⟩:S_api_EdPoint)) clo74 wf74 (fun v=>rfl) (fun v h=>⟨h.1,h.2.1⟩)
theorem opn69 {H:Type} {enc:TypeId×Value→H} {w:World}:Opens enc Try.prog w 69 (fun xs:List S_api_EdPoint=>[D.list false 2 xs.length (xs.flatMap cel74)]) (fun xs=>(∀x∈xs,wf74 x)∧xs.length≤maxLen) :=
 opens_slice (e:=74) (sz:=2) (by kernel_rfl) (by kernel_rfl) (by omega) cel74_len opn74
def wf71 (x:S_api_EdEdge):Prop:=(Fits .i64) x.A∧(Fits .i64) x.B∧(fun xs=>(∀x∈xs,wf74 x)∧xs.length≤maxLen) x.Points
def clo71 (x:S_api_EdEdge):List D:=[(di x.A),(di x.B),(L74 x.Points)]
theorem opn71 {H:Type} {enc:TypeId×Value→H} {w:World}:Opens enc Try.prog w 71 clo71 wf71 :=
 opens_structG (l:=[(3,0),(3,1),(69,2)]) (n:=3) (by kernel_rfl) (by kernel_rfl) (by kernel_rfl) (opensG_cons (sz:=1) (by kernel_rfl) (opens_fit (t:=3) (k := .i64) (by kernel_rfl)) (opensG_cons (sz:=1) (by kernel_rfl) (opens_fit (t:=3) (k := .i64) (by kernel_rfl)) (opensG_cons (sz:=1) (by kernel_rfl) opn69 opensG_nil))) (fun v=>(⟨v.1,v.2.1,v.2.2.1⟩:S_api_EdEdge)) clo71 wf71 (fun v=>rfl) (fun v h=>⟨h.1,h.2.1,h.2.2.1⟩)
theorem opn23 {H:Type} {enc:TypeId×Value→H} {w:World}:Opens enc Try.prog w 23 (fun xs:List S_api_EdEdge=>[D.list false 3 xs.length (xs.flatMap cel71)]) (fun xs=>(∀x∈xs,wf71 x)∧xs.length≤maxLen) :=
 opens_slice (e:=71) (sz:=3) (by kernel_rfl) (by kernel_rfl) (by omega) cel71_len opn71
def wf66 (x:S_api_EdSheet):Prop:=(fun _=>True) x.Name∧(Fits .i64) x.Weight∧(Fits .i64) x.Most
def clo66 (x:S_api_EdSheet):List D:=[(.v (.string x.Name)),(di x.Weight),(di x.Most)]
theorem opn66 {H:Type} {enc:TypeId×Value→H} {w:World}:Opens enc Try.prog w 66 clo66 wf66 :=
 opens_structG (l:=[(9,0),(3,1),(3,2)]) (n:=3) (by kernel_rfl) (by kernel_rfl) (by kernel_rfl) (opensG_cons (sz:=1) (by kernel_rfl) (opens_str (t:=9) (by kernel_rfl)) (opensG_cons (sz:=1) (by kernel_rfl) (opens_fit (t:=3) (k := .i64) (by kernel_rfl)) (opensG_cons (sz:=1) (by kernel_rfl) (opens_fit (t:=3) (k := .i64) (by kernel_rfl)) opensG_nil))) (fun v=>(⟨v.1,v.2.1,v.2.2.1⟩:S_api_EdSheet)) clo66 wf66 (fun v=>rfl) (fun v h=>⟨h.1,h.2.1,h.2.2.1⟩)
theorem opn22 {H:Type} {enc:TypeId×Value→H} {w:World}:Opens enc Try.prog w 22 (fun xs:List S_api_EdSheet=>[D.list false 3 xs.length (xs.flatMap cel66)]) (fun xs=>(∀x∈xs,wf66 x)∧xs.length≤maxLen) :=
 opens_slice (e:=66) (sz:=3) (by kernel_rfl) (by kernel_rfl) (by omega) cel66_len opn66
def wf25 (x:S_api_EdCase):Prop:=(Fits .i64) x.Tol∧(fun xs=>(∀x∈xs,wf66 x)∧xs.length≤maxLen) x.Sheets∧(fun xs=>(∀x∈xs,wf71 x)∧xs.length≤maxLen) x.Edges
def clo25 (x:S_api_EdCase):List D:=[(di x.Tol),(L66 x.Sheets),(L71 x.Edges)]
theorem opn25 {H:Type} {enc:TypeId×Value→H} {w:World}:Opens enc Try.prog w 25 clo25 wf25 :=
 opens_structG (l:=[(3,0),(22,1),(23,2)]) (n:=3) (by kernel_rfl) (by kernel_rfl) (by kernel_rfl) (opensG_cons (sz:=1) (by kernel_rfl) (opens_fit (t:=3) (k := .i64) (by kernel_rfl)) (opensG_cons (sz:=1) (by kernel_rfl) opn22 (opensG_cons (sz:=1) (by kernel_rfl) opn23 opensG_nil))) (fun v=>(⟨v.1,v.2.1,v.2.2.1⟩:S_api_EdCase)) clo25 wf25 (fun v=>rfl) (fun v h=>⟨h.1,h.2.1,h.2.2.1⟩)

theorem own:ownKnob Try.prog.godebug=none:=by kernel_rfl
theorem laid:laidOutB Try.prog=true:=by kernel_rfl
def argv (x:S_api_EdCase×((List Int)×((List Int)×Unit))):List D:=[(fun x=>D.agg (clo25 x)) x.1,(fun xs:List Int=>D.list false 1 xs.length (xs.flatMap cel54)) x.2.1,(fun xs:List Int=>D.list false 1 xs.length (xs.flatMap cel5)) x.2.2.1]
def argw (x:S_api_EdCase×((List Int)×((List Int)×Unit))):Prop:=wf25 x.1∧(fun xs=>(∀x∈xs,(Fits .i16) x)∧xs.length≤maxLen) x.2.1∧(fun xs=>(∀x∈xs,(Fits .u8) x)∧xs.length≤maxLen) x.2.2.1∧True
theorem opens {H:Type} {enc:TypeId×Value→H} {w:World}:ArgsOpen enc Try.prog w [25,52,47] argv argw:=(args_cons (arg_struct (by kernel_rfl) opn25) (args_cons (arg_one (u:=(.slice 54)) (by kernel_rfl) rfl opn52) (args_cons (arg_one (u:=(.slice 5)) (by kernel_rfl) rfl opn47) args_nil)))
theorem walk (x:S_api_EdCase×((List Int)×((List Int)×Unit))) (h:argw x):PCall Try.prog 8 (argv x) (.d (.v (.bool true))):=ct8 (law8 x.1 x.2.1 x.2.2.1 ⟨fun v hv=>h.2.1.1 v hv,by have:=h.2.1.2;unfold maxLen at this;omega⟩ ⟨fun v hv=>h.2.2.1.1 v hv,by have:=h.2.2.1.2;unfold maxLen at this;omega⟩)

theorem lifted (os:Os) (started:os.Started) (H:Type) (enc:TypeId×Value→H) :
 ReturnsInHanded {} Try.checked os 8 .any (Rows.edgeProofSpec.pre6 enc Try.prog Try.f8 Rows.edgeProofRow.domain false) (Rows.edgeProofSpec.post enc Try.prog Try.f8 false true false false):=by
 refine returnsInHanded_of_change (C:=Try.checked) own started (by kernel_rfl) Try.func8
  (ChangeSpec.witness6 (enc:=enc) (C:=Try.checked) false ⟨#[],#[.agg #[.int .i64 0,.slice none 0 0,.slice none 0 0],.slice none 0 0,.slice none 0 0],[]⟩ 12 (by kernel_rfl) (by kernel_rfl) (by kernel_rfl) (by kernel_rfl)) ?_
 intro W base args ds gs before hval hW hcnd _
 refine lawPost (P:=Try.prog) (g:=argv) (wf:=argw) laid (show (Try.f8.params.toList.all fun t=>Try.prog.readableRec t&&decide (t<Try.prog.types.size))=true by kernel_rfl) rfl (show Try.f8.resultTypes = #[4] by kernel_rfl) (show Try.prog.underlying 4=some .bool by kernel_rfl) ?_ ?_ walk hval hW
 ·intro ds hd
  have hs:Try.f8.params.size=3:=by kernel_rfl
  rw [hs] at hd
  match ds,hd with
  | [d0,d1,d2],_=>rfl
 ·have hp:Try.f8.params.toList=[25,52,47]:=by kernel_rfl
  rw [hp];exact opens

theorem over:Rows.edgeProofRow.holds Try.pinned (OpenSpec.ofChange Rows.edgeProofSpec) :=
 OpenClaim.holds_of_wide 8 Try.f8 rfl rfl rfl rfl rfl rfl rfl ⟨rfl,rfl,rfl,rfl,rfl⟩ rfl rfl rfl rfl rfl (by kernel_rfl) Try.func8 (by kernel_rfl)
  (of_decide_eq_true (by kernel_rfl)) (by unfold Func.isWrapper;first|(rw [if_pos (by decide +kernel)];kernel_rfl)|(rw [if_neg (by decide +kernel)];exact ⟨rfl,rfl⟩))
  (fun os started H enc _=>lifted os started H enc)

theorem proved:Rows.EdgeProofSaid:=over
end Go.Proofs.Ytallnifoeahpiaa.edgeProof
