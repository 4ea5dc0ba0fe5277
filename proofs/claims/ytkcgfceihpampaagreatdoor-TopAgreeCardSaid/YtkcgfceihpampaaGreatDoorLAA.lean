/- TopAgree holds of any case, and of what its sheets show. -/
import Derived.Test.YtkcgfceihpampaaGreatDoorLAB
import Derived.Test.YtkcgfceihpampaaGreatDoorRows
import Derived.Test.YtkcgfceihpampaaGreatDoorCZ
import Derived.Test.YtkcgfceihpampaaGreatDoorPH
import Derived.Test.YtkcgfceihpampaaGreatDoorPK
import Derived.Test.YtkcgfceihpampaaGreatDoorNL
import Derived.Test.YtkcgfceihpampaaGreatDoorCards
import Derived.Test.YtkcgfceihpampaaGreatDoorTie
import Derived.Lay
import Derived.SevenTiedAt
import Derived.ProofKit
import Derived.Stop.Joined
namespace Go.Proofs.YtkcgfceihpampaaGreatDoor.topAgree
open Go Go.ChangeShapes Go.WideShapes Go.ChangeAt Go.RowKit Go.Sx
set_option linter.all false
set_option maxRecDepth 100000

theorem opn48 {H:Type} {enc:TypeId×Value→H} {w:World}:Opens enc Tryz.prog w 48 (fun xs:List Int=>[D.list false 1 xs.length (xs.flatMap cel181)]) (fun xs=>(∀x∈xs,(Fits .u16) x)∧xs.length≤maxLen) :=
 opens_slice (e:=181) (sz:=1) (by kernel_rfl) (by kernel_rfl) (by omega) cel181_len (opens_fit (t:=181) (k := .u16) (by kernel_rfl))
theorem opn77 {H:Type} {enc:TypeId×Value→H} {w:World}:Opens enc Tryz.prog w 77 (fun xs:List Int=>[D.list false 1 xs.length (xs.flatMap cel5)]) (fun xs=>(∀x∈xs,(Fits .u8) x)∧xs.length≤maxLen) :=
 opens_slice (e:=5) (sz:=1) (by kernel_rfl) (by kernel_rfl) (by omega) cel5_len (opens_fit (t:=5) (k := .u8) (by kernel_rfl))
def wf79 (x:S_hachurelaw02qShown):Prop:=(fun xs=>(∀x∈xs,(Fits .u8) x)∧xs.length≤maxLen) x.Shifts∧(fun xs=>(∀x∈xs,(Fits .u8) x)∧xs.length≤maxLen) x.Off∧(fun xs=>(∀x∈xs,(Fits .u16) x)∧xs.length≤maxLen) x.High
def clo79 (x:S_hachurelaw02qShown):List D:=[(L5 x.Shifts),(L5 x.Off),(L181 x.High)]
theorem opn79 {H:Type} {enc:TypeId×Value→H} {w:World}:Opens enc Tryz.prog w 79 clo79 wf79 :=
 opens_structG (l:=[(77,0),(77,1),(48,2)]) (n:=3) (by kernel_rfl) (by kernel_rfl) (by kernel_rfl) (opensG_cons (sz:=1) (by kernel_rfl) opn77 (opensG_cons (sz:=1) (by kernel_rfl) opn77 (opensG_cons (sz:=1) (by kernel_rfl) opn48 opensG_nil))) (fun v=>(⟨v.1,v.2.1,v.2.2.1⟩:S_hachurelaw02qShown)) clo79 wf79 (fun v=>rfl) (fun v h=>⟨h.1,h.2.1,h.2.2.1⟩)
def wf183 (x:S_api_EdPoint):Prop:=(Fits .i64) x.A∧(Fits .i64) x.B
def clo183 (x:S_api_EdPoint):List D:=[(di x.A),(di x.B)]
theorem opn183 {H:Type} {enc:TypeId×Value→H} {w:World}:Opens enc Tryz.prog w 183 clo183 wf183 :=
 opens_structG (l:=[(3,0),(3,1)]) (n:=2) (by kernel_rfl) (by kernel_rfl) (by kernel_rfl) (opensG_cons (sz:=1) (by kernel_rfl) (opens_fit (t:=3) (k := .i64) (by kernel_rfl)) (opensG_cons (sz:=1) (by kernel_rfl) (opens_fit (t:=3) (k := .i64) (by kernel_rfl)) opensG_nil)) (fun v=>(⟨v.1,v.2.1⟩:S_api_EdPoint)) clo183 wf183 (fun v=>rfl) (fun v h=>⟨h.1,h.2.1⟩)
theorem opn172 {H:Type} {enc:TypeId×Value→H} {w:World}:Opens enc Tryz.prog w 172 (fun xs:List S_api_EdPoint=>[D.list false 2 xs.length (xs.flatMap cel183)]) (fun xs=>(∀x∈xs,wf183 x)∧xs.length≤maxLen) :=
 opens_slice (e:=183) (sz:=2) (by kernel_rfl) (by kernel_rfl) (by omega) cel183_len opn183
def wf174 (x:S_api_EdEdge):Prop:=(Fits .i64) x.A∧(Fits .i64) x.B∧(fun xs=>(∀x∈xs,wf183 x)∧xs.length≤maxLen) x.Points
def clo174 (x:S_api_EdEdge):List D:=[(di x.A),(di x.B),(L183 x.Points)]
theorem opn174 {H:Type} {enc:TypeId×Value→H} {w:World}:Opens enc Tryz.prog w 174 clo174 wf174 :=
 opens_structG (l:=[(3,0),(3,1),(172,2)]) (n:=3) (by kernel_rfl) (by kernel_rfl) (by kernel_rfl) (opensG_cons (sz:=1) (by kernel_rfl) (opens_fit (t:=3) (k := .i64) (by kernel_rfl)) (opensG_cons (sz:=1) (by kernel_rfl) (opens_fit (t:=3) (k := .i64) (by kernel_rfl)) (opensG_cons (sz:=1) (by kernel_rfl) opn172 opensG_nil))) (fun v=>(⟨v.1,v.2.1,v.2.2.1⟩:S_api_EdEdge)) clo174 wf174 (fun v=>rfl) (fun v h=>⟨h.1,h.2.1,h.2.2.1⟩)
theorem opn74 {H:Type} {enc:TypeId×Value→H} {w:World}:Opens enc Tryz.prog w 74 (fun xs:List S_api_EdEdge=>[D.list false 3 xs.length (xs.flatMap cel174)]) (fun xs=>(∀x∈xs,wf174 x)∧xs.length≤maxLen) :=
 opens_slice (e:=174) (sz:=3) (by kernel_rfl) (by kernel_rfl) (by omega) cel174_len opn174
def wf82 (x:S_api_EdSheet):Prop:=(fun _=>True) x.Name∧(Fits .i64) x.Weight∧(Fits .i64) x.Most
def clo82 (x:S_api_EdSheet):List D:=[(.v (.string x.Name)),(di x.Weight),(di x.Most)]
theorem opn82 {H:Type} {enc:TypeId×Value→H} {w:World}:Opens enc Tryz.prog w 82 clo82 wf82 :=
 opens_structG (l:=[(9,0),(3,1),(3,2)]) (n:=3) (by kernel_rfl) (by kernel_rfl) (by kernel_rfl) (opensG_cons (sz:=1) (by kernel_rfl) (opens_str (t:=9) (by kernel_rfl)) (opensG_cons (sz:=1) (by kernel_rfl) (opens_fit (t:=3) (k := .i64) (by kernel_rfl)) (opensG_cons (sz:=1) (by kernel_rfl) (opens_fit (t:=3) (k := .i64) (by kernel_rfl)) opensG_nil))) (fun v=>(⟨v.1,v.2.1,v.2.2.1⟩:S_api_EdSheet)) clo82 wf82 (fun v=>rfl) (fun v h=>⟨h.1,h.2.1,h.2.2.1⟩)
theorem opn73 {H:Type} {enc:TypeId×Value→H} {w:World}:Opens enc Tryz.prog w 73 (fun xs:List S_api_EdSheet=>[D.list false 3 xs.length (xs.flatMap cel82)]) (fun xs=>(∀x∈xs,wf82 x)∧xs.length≤maxLen) :=
 opens_slice (e:=82) (sz:=3) (by kernel_rfl) (by kernel_rfl) (by omega) cel82_len opn82
def wf76 (x:S_api_EdCase):Prop:=(Fits .i64) x.Tol∧(fun xs=>(∀x∈xs,wf82 x)∧xs.length≤maxLen) x.Sheets∧(fun xs=>(∀x∈xs,wf174 x)∧xs.length≤maxLen) x.Edges
def clo76 (x:S_api_EdCase):List D:=[(di x.Tol),(L82 x.Sheets),(L174 x.Edges)]
theorem opn76 {H:Type} {enc:TypeId×Value→H} {w:World}:Opens enc Tryz.prog w 76 clo76 wf76 :=
 opens_structG (l:=[(3,0),(73,1),(74,2)]) (n:=3) (by kernel_rfl) (by kernel_rfl) (by kernel_rfl) (opensG_cons (sz:=1) (by kernel_rfl) (opens_fit (t:=3) (k := .i64) (by kernel_rfl)) (opensG_cons (sz:=1) (by kernel_rfl) opn73 (opensG_cons (sz:=1) (by kernel_rfl) opn74 opensG_nil))) (fun v=>(⟨v.1,v.2.1,v.2.2.1⟩:S_api_EdCase)) clo76 wf76 (fun v=>rfl) (fun v h=>⟨h.1,h.2.1,h.2.2.1⟩)

theorem awake32:F32 200=some true:=by kernel_rfl
theorem tn8 {x:List Int} (h:(∀n∈x,Fits .u8 n)∧x.length≤maxLen):Small x:=⟨fun n hn=>(h.1 n hn).u8,by have:=h.2;unfold maxLen at this;omega⟩
theorem tn16 {x:List Int} (h:(∀n∈x,Fits .u16 n)∧x.length≤maxLen):Big x:=⟨fun n hn=>(h.1 n hn).u16,by have:=h.2;unfold maxLen at this;omega⟩
theorem own:ownKnob Tryz.prog.godebug=none:=by kernel_rfl
theorem laid:laidOutB Tryz.prog=true:=by kernel_rfl
def argv (x:S_api_EdCase×(S_hachurelaw02qShown×Unit)):List D:=[(fun x=>D.agg (clo76 x)) x.1,(fun x=>D.agg (clo79 x)) x.2.1]
def argw (x:S_api_EdCase×(S_hachurelaw02qShown×Unit)):Prop:=wf76 x.1∧wf79 x.2.1∧True
theorem opens {H:Type} {enc:TypeId×Value→H} {w:World}:ArgsOpen enc Tryz.prog w [76,79] argv argw:=(args_cons (arg_struct (by kernel_rfl) opn76) (args_cons (arg_struct (by kernel_rfl) opn79) args_nil))
theorem walk (x:S_api_EdCase×(S_hachurelaw02qShown×Unit)) (h:argw x):PCall Tryz.prog 5 (argv x) (.d (.v (.bool true))):=ct5 (law5 awake7 awake32 x.1 x.2.1 (tn8 h.2.1.1) (tn16 h.2.1.2.2) (tn8 h.2.1.2.1))

theorem lifted (os:Os) (started:os.Started) (H:Type) (enc:TypeId×Value→H) :
 ReturnsInHanded {} Tryz.checked os 5 .any (fun w args=>(Rows.topAgreeSpec.pre enc Tryz.prog Tryz.f5 Rows.topAgreeRow.domain false w args∧laidMetH Tryz.prog laid7 w)∧sizedMet enc Tryz.prog Tryz.f5 (OpenSpec.ofChange Rows.topAgreeSpec) false w args) (Rows.topAgreeSpec.post enc Tryz.prog Tryz.f5 false true false false):=by
 refine returnsInHanded_of_change_both (C:=Tryz.checked) (X:=fun w _=>laidMetH Tryz.prog laid7 w) (fun _ _ _ hh h=>h.of_heap hh) own started (by kernel_rfl) Tryz.func5
  (ChangeSpec.witness_shaped (enc:=enc) (C:=Tryz.checked) (os:=os) (X:=fun w _=>laidMetH Tryz.prog laid7 w) false (World.laidAll Tryz.prog os laid7) #[.agg #[.int .i64 0,.slice none 0 0,.slice none 0 0],.agg #[.slice none 0 0,.slice none 0 0,.slice none 0 0]] 12 (World.laidAll_os _ _ _)
   (World.shaped_of_ZipB (by kernel_rfl) (by kernel_rfl)) (by kernel_rfl) (by kernel_rfl) (by kernel_rfl)
   (by rw [MakeChecks.laidMetH_plain _ _ _ (by kernel_rfl)];exact laidMet_laidAll _ (by kernel_rfl) (by kernel_rfl))) ?_
 intro W base args ds gs before hval hW hcnd _ hsh hL _;refine lawPost (P:=Tryz.prog) (g:=argv) (wf:=argw) laid (show (Tryz.f5.params.toList.all fun t=>Tryz.prog.readableRec t&&decide (t<Tryz.prog.types.size))=true by kernel_rfl) rfl (show Tryz.f5.resultTypes = #[4] by kernel_rfl) (show Tryz.prog.underlying 4=some .bool by kernel_rfl) ?_ ?_ walk hval hW (lay_of hsh hL)
 ·intro ds hd;have hs:Tryz.f5.params.size=2:=by kernel_rfl
  rw [hs] at hd
  match ds,hd with
  | [d0,d1],_=>rfl
 ·have hp:Tryz.f5.params.toList=[76,79]:=by kernel_rfl
  rw [hp];exact opens

theorem over:Rows.topAgreeRow.holds Tryz.pinned (OpenSpec.ofChange Rows.topAgreeSpec) :=
 OpenClaim.holds_of_wide 5 Tryz.f5 rfl rfl rfl rfl rfl rfl rfl ⟨rfl,rfl,rfl,rfl,rfl⟩ rfl rfl rfl rfl rfl (by kernel_rfl) Tryz.func5 closed
  (of_decide_eq_true (by kernel_rfl)) (by unfold Func.isWrapper;first|(rw [if_pos (by decide +kernel)];kernel_rfl)|(rw [if_neg (by decide +kernel)];exact ⟨rfl,rfl⟩))
  (fun os started H enc _=>lifted os started H enc)
end Go.Proofs.YtkcgfceihpampaaGreatDoor.topAgree
