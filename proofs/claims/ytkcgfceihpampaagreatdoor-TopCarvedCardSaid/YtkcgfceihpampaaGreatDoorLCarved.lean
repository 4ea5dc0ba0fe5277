/- A sheet of a row has the heights that the row's bounds are, for any row of at most six points. -/
import Derived.Test.YtkcgfceihpampaaGreatDoorRows
import Derived.Test.YtkcgfceihpampaaGreatDoorCZ
import Derived.Test.YtkcgfceihpampaaGreatDoorPW
import Derived.Test.YtkcgfceihpampaaGreatDoorPK
import Derived.Test.YtkcgfceihpampaaGreatDoorNL
import Derived.Test.YtkcgfceihpampaaGreatDoorCards
import Derived.Test.YtkcgfceihpampaaGreatDoorTie
import Derived.Lay
import Derived.SevenTiedAt
import Derived.ProofKit
import Derived.Stop.Joined
namespace Go.Proofs.YtkcgfceihpampaaGreatDoor.topCarved
open Go Go.ChangeShapes Go.WideShapes Go.ChangeAt Go.RowKit Go.Sx
set_option linter.all false
set_option maxRecDepth 100000

def wf91 (x:S_api_CvPoint):Prop:=(Fits .i64) x.Board∧(Fits .i64) x.Lo∧(Fits .i64) x.Hi
def clo91 (x:S_api_CvPoint):List D:=[(di x.Board),(di x.Lo),(di x.Hi)]
theorem opn91 {H:Type} {enc:TypeId×Value→H} {w:World}:Opens enc Tryz.prog w 91 clo91 wf91 :=
 opens_structG (l:=[(3,0),(3,1),(3,2)]) (n:=3) (by kernel_rfl) (by kernel_rfl) (by kernel_rfl) (opensG_cons (sz:=1) (by kernel_rfl) (opens_fit (t:=3) (k := .i64) (by kernel_rfl)) (opensG_cons (sz:=1) (by kernel_rfl) (opens_fit (t:=3) (k := .i64) (by kernel_rfl)) (opensG_cons (sz:=1) (by kernel_rfl) (opens_fit (t:=3) (k := .i64) (by kernel_rfl)) opensG_nil))) (fun v=>(⟨v.1,v.2.1,v.2.2.1⟩:S_api_CvPoint)) clo91 wf91 (fun v=>rfl) (fun v h=>⟨h.1,h.2.1,h.2.2.1⟩)
theorem opn22 {H:Type} {enc:TypeId×Value→H} {w:World}:Opens enc Tryz.prog w 22 (fun xs:List S_api_CvPoint=>[D.list false 3 xs.length (xs.flatMap cel91)]) (fun xs=>(∀x∈xs,wf91 x)∧xs.length≤maxLen) :=
 opens_slice (e:=91) (sz:=3) (by kernel_rfl) (by kernel_rfl) (by omega) cel91_len opn91
def wf24 (x:S_api_CvRow):Prop:=(Fits .i64) x.Steep∧(fun xs=>(∀x∈xs,wf91 x)∧xs.length≤maxLen) x.Points
def clo24 (x:S_api_CvRow):List D:=[(di x.Steep),(L91 x.Points)]
theorem opn24 {H:Type} {enc:TypeId×Value→H} {w:World}:Opens enc Tryz.prog w 24 clo24 wf24 :=
 opens_structG (l:=[(3,0),(22,1)]) (n:=2) (by kernel_rfl) (by kernel_rfl) (by kernel_rfl) (opensG_cons (sz:=1) (by kernel_rfl) (opens_fit (t:=3) (k := .i64) (by kernel_rfl)) (opensG_cons (sz:=1) (by kernel_rfl) opn22 opensG_nil)) (fun v=>(⟨v.1,v.2.1⟩:S_api_CvRow)) clo24 wf24 (fun v=>rfl) (fun v h=>⟨h.1,h.2.1⟩)

theorem awake8:F8 200=some true:=by kernel_rfl
theorem own:ownKnob Tryz.prog.godebug=none:=by kernel_rfl
theorem laid:laidOutB Tryz.prog=true:=by kernel_rfl
def argv (x:S_api_CvRow×Unit):List D:=[(fun x=>D.agg (clo24 x)) x.1]
def argw (x:S_api_CvRow×Unit):Prop:=wf24 x.1∧True
theorem opens {H:Type} {enc:TypeId×Value→H} {w:World}:ArgsOpen enc Tryz.prog w [24] argv argw:=(args_cons (arg_struct (by kernel_rfl) opn24) args_nil)
theorem walk (x:S_api_CvRow×Unit) (h:argw x):PCall Tryz.prog 3 (argv x) (.d (.v (.bool true))):=ct3 (law3 awake7 awake8 x.1)

theorem lifted (os:Os) (started:os.Started) (H:Type) (enc:TypeId×Value→H) :
 ReturnsInHanded {} Tryz.checked os 3 .any (fun w args=>(Rows.topCarvedSpec.pre enc Tryz.prog Tryz.f3 Rows.topCarvedRow.domain false w args∧laidMetH Tryz.prog laid7 w)∧sizedMet enc Tryz.prog Tryz.f3 (OpenSpec.ofChange Rows.topCarvedSpec) false w args) (Rows.topCarvedSpec.post enc Tryz.prog Tryz.f3 false true false false):=by
 refine returnsInHanded_of_change_both (C:=Tryz.checked) (X:=fun w _=>laidMetH Tryz.prog laid7 w) (fun _ _ _ hh h=>h.of_heap hh) own started (by kernel_rfl) Tryz.func3
  (ChangeSpec.witness_shaped (enc:=enc) (C:=Tryz.checked) (os:=os) (X:=fun w _=>laidMetH Tryz.prog laid7 w) false (World.laidAll Tryz.prog os laid7) #[.agg #[.int .i64 0,.slice none 0 0]] 12 (World.laidAll_os _ _ _)
   (World.shaped_of_ZipB (by kernel_rfl) (by kernel_rfl)) (by kernel_rfl) (by kernel_rfl) (by kernel_rfl)
   (by rw [MakeChecks.laidMetH_plain _ _ _ (by kernel_rfl)];exact laidMet_laidAll _ (by kernel_rfl) (by kernel_rfl))) ?_
 intro W base args ds gs before hval hW hcnd _ hsh hL _
 refine lawPost (P:=Tryz.prog) (g:=argv) (wf:=argw) laid (show (Tryz.f3.params.toList.all fun t=>Tryz.prog.readableRec t&&decide (t<Tryz.prog.types.size))=true by kernel_rfl) rfl (show Tryz.f3.resultTypes = #[4] by kernel_rfl) (show Tryz.prog.underlying 4=some .bool by kernel_rfl) ?_ ?_ walk hval hW (lay_of hsh hL)
 ·intro ds hd
  have hs:Tryz.f3.params.size=1:=by kernel_rfl
  rw [hs] at hd
  match ds,hd with
  | [d0],_=>rfl
 ·have hp:Tryz.f3.params.toList=[24]:=by kernel_rfl
  rw [hp];exact opens

theorem over:Rows.topCarvedRow.holds Tryz.pinned (OpenSpec.ofChange Rows.topCarvedSpec) :=
 OpenClaim.holds_of_wide 3 Tryz.f3 rfl rfl rfl rfl rfl rfl rfl ⟨rfl,rfl,rfl,rfl,rfl⟩ rfl rfl rfl rfl rfl (by kernel_rfl) Tryz.func3 (by kernel_rfl)
  (of_decide_eq_true (by kernel_rfl)) (by unfold Func.isWrapper;first|(rw [if_pos (by decide +kernel)];kernel_rfl)|(rw [if_neg (by decide +kernel)];exact ⟨rfl,rfl⟩))
  (fun os started H enc _=>lifted os started H enc)

theorem proved:Rows.TopCarvedCardSaid :=
 Claim7.holds_tied_plain_at .later [] [.data,.data,.data,.data,.sentinel,.sentinel,.pinned] true (true,"b73af0af3f181b2f590bcc6cd50c7f19a6d67d37c5a12bca7fdcc7e8cc8c526e") true over (fun _ h=>by cases h) (by kernel_rfl) (fun _ h=>by cases h) topCarved_row_tie rfl ⟨rfl,rfl⟩ (by kernel_rfl) rfl
  (fun f fn hf hfn=>by
   obtain rfl:f=3:=Option.some.inj ((show Tryz.prog.funcNamed "hachure/hachuretop.TopCarved" = some 3 by kernel_rfl).symm.trans hf) |>.symm
   obtain rfl:fn=Tryz.f3:=(Option.some.inj (Tryz.func3.symm.trans hfn)).symm
   exact ⟨by kernel_rfl,fun j t ht=>by
    have hp:Tryz.f3.params = #[24]:=by kernel_rfl
    rw [hp] at ht
    have hm:t∈[24]:=by simpa using Array.mem_of_getElem? ht
    have hall:([24].all fun u => !Tryz.prog.wantsStandIn u)=true:=by kernel_rfl
    exact (show Tryz.prog.wantsStandIn t=false by simpa using List.all_eq_true.1 hall t hm)⟩)
  (by kernel_rfl)
end Go.Proofs.YtkcgfceihpampaaGreatDoor.topCarved
