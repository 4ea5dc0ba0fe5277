/- TopPainted holds of any sheet, map and truth. -/
import Derived.Test.YtkcgfceihpampaaGreatDoorLPB
import Derived.Test.YtkcgfceihpampaaGreatDoorRows
import Derived.Test.YtkcgfceihpampaaGreatDoorCZ
import Derived.Test.YtkcgfceihpampaaGreatDoorPV
import Derived.Test.YtkcgfceihpampaaGreatDoorPK
import Derived.Test.YtkcgfceihpampaaGreatDoorNL
import Derived.Test.YtkcgfceihpampaaGreatDoorCards
import Derived.Test.YtkcgfceihpampaaGreatDoorTie
import Derived.Lay
import Derived.SevenTiedAt
import Derived.ProofKit
import Derived.Stop.Joined
namespace Go.Proofs.YtkcgfceihpampaaGreatDoor.topPainted
open Go Go.ChangeShapes Go.WideShapes Go.ChangeAt Go.RowKit Go.Sx
set_option linter.all false
set_option maxRecDepth 100000

theorem opn48 {H:Type} {enc:TypeId×Value→H} {w:World}:Opens enc Tryz.prog w 48 (fun xs:List Int=>[D.list false 1 xs.length (xs.flatMap cel181)]) (fun xs=>(∀x∈xs,(Fits .u16) x)∧xs.length≤maxLen) :=
 opens_slice (e:=181) (sz:=1) (by kernel_rfl) (by kernel_rfl) (by omega) cel181_len (opens_fit (t:=181) (k := .u16) (by kernel_rfl))
def wf50 (x:S_hachuretop_Painted):Prop:=(fun xs=>(∀x∈xs,(Fits .u16) x)∧xs.length≤maxLen) x.Heights∧(fun xs=>(∀x∈xs,(Fits .u16) x)∧xs.length≤maxLen) x.Off∧(fun xs=>(∀x∈xs,(Fits .u16) x)∧xs.length≤maxLen) x.Legend
def clo50 (x:S_hachuretop_Painted):List D:=[(L181 x.Heights),(L181 x.Off),(L181 x.Legend)]
theorem opn50 {H:Type} {enc:TypeId×Value→H} {w:World}:Opens enc Tryz.prog w 50 clo50 wf50 :=
 opens_structG (l:=[(48,0),(48,1),(48,2)]) (n:=3) (by kernel_rfl) (by kernel_rfl) (by kernel_rfl) (opensG_cons (sz:=1) (by kernel_rfl) opn48 (opensG_cons (sz:=1) (by kernel_rfl) opn48 (opensG_cons (sz:=1) (by kernel_rfl) opn48 opensG_nil))) (fun v=>(⟨v.1,v.2.1,v.2.2.1⟩:S_hachuretop_Painted)) clo50 wf50 (fun v=>rfl) (fun v h=>⟨h.1,h.2.1,h.2.2.1⟩)
def wf70 (x:S_api_ClPair):Prop:=(Fits .i64) x.A∧(Fits .i64) x.B
def clo70 (x:S_api_ClPair):List D:=[(di x.A),(di x.B)]
theorem opn70 {H:Type} {enc:TypeId×Value→H} {w:World}:Opens enc Tryz.prog w 70 clo70 wf70 :=
 opens_structG (l:=[(3,0),(3,1)]) (n:=2) (by kernel_rfl) (by kernel_rfl) (by kernel_rfl) (opensG_cons (sz:=1) (by kernel_rfl) (opens_fit (t:=3) (k := .i64) (by kernel_rfl)) (opensG_cons (sz:=1) (by kernel_rfl) (opens_fit (t:=3) (k := .i64) (by kernel_rfl)) opensG_nil)) (fun v=>(⟨v.1,v.2.1⟩:S_api_ClPair)) clo70 wf70 (fun v=>rfl) (fun v h=>⟨h.1,h.2.1⟩)
theorem opn45 {H:Type} {enc:TypeId×Value→H} {w:World}:Opens enc Tryz.prog w 45 (fun xs:List S_api_ClPair=>[D.list false 2 xs.length (xs.flatMap cel70)]) (fun xs=>(∀x∈xs,wf70 x)∧xs.length≤maxLen) :=
 opens_slice (e:=70) (sz:=2) (by kernel_rfl) (by kernel_rfl) (by omega) cel70_len opn70
def wf66 (x:S_api_Span):Prop:=(Fits .i64) x.Lo∧(Fits .i64) x.Hi
def clo66 (x:S_api_Span):List D:=[(di x.Lo),(di x.Hi)]
theorem opn66 {H:Type} {enc:TypeId×Value→H} {w:World}:Opens enc Tryz.prog w 66 clo66 wf66 :=
 opens_structG (l:=[(3,0),(3,1)]) (n:=2) (by kernel_rfl) (by kernel_rfl) (by kernel_rfl) (opensG_cons (sz:=1) (by kernel_rfl) (opens_fit (t:=3) (k := .i64) (by kernel_rfl)) (opensG_cons (sz:=1) (by kernel_rfl) (opens_fit (t:=3) (k := .i64) (by kernel_rfl)) opensG_nil)) (fun v=>(⟨v.1,v.2.1⟩:S_api_Span)) clo66 wf66 (fun v=>rfl) (fun v h=>⟨h.1,h.2.1⟩)
theorem opn34 {H:Type} {enc:TypeId×Value→H} {w:World}:Opens enc Tryz.prog w 34 (fun xs:List S_api_Span=>[D.list false 2 xs.length (xs.flatMap cel66)]) (fun xs=>(∀x∈xs,wf66 x)∧xs.length≤maxLen) :=
 opens_slice (e:=66) (sz:=2) (by kernel_rfl) (by kernel_rfl) (by omega) cel66_len opn66
def wf47 (x:S_api_ClMap):Prop:=(fun xs=>(∀x∈xs,wf66 x)∧xs.length≤maxLen) x.Borders∧(Fits .i64) x.Step∧(fun xs=>(∀x∈xs,wf66 x)∧xs.length≤maxLen) x.Heights∧(fun xs=>(∀x∈xs,wf70 x)∧xs.length≤maxLen) x.Sides∧(Fits .i64) x.Inks∧(fun xs=>(∀x∈xs,wf70 x)∧xs.length≤maxLen) x.Like
def clo47 (x:S_api_ClMap):List D:=[(L66 x.Borders),(di x.Step),(L66 x.Heights),(L70 x.Sides),(di x.Inks),(L70 x.Like)]
theorem opn47 {H:Type} {enc:TypeId×Value→H} {w:World}:Opens enc Tryz.prog w 47 clo47 wf47 :=
 opens_structG (l:=[(34,0),(3,1),(34,2),(45,3),(3,4),(45,5)]) (n:=6) (by kernel_rfl) (by kernel_rfl) (by kernel_rfl) (opensG_cons (sz:=1) (by kernel_rfl) opn34 (opensG_cons (sz:=1) (by kernel_rfl) (opens_fit (t:=3) (k := .i64) (by kernel_rfl)) (opensG_cons (sz:=1) (by kernel_rfl) opn34 (opensG_cons (sz:=1) (by kernel_rfl) opn45 (opensG_cons (sz:=1) (by kernel_rfl) (opens_fit (t:=3) (k := .i64) (by kernel_rfl)) (opensG_cons (sz:=1) (by kernel_rfl) opn45 opensG_nil)))))) (fun v=>(⟨v.1,v.2.1,v.2.2.1,v.2.2.2.1,v.2.2.2.2.1,v.2.2.2.2.2.1⟩:S_api_ClMap)) clo47 wf47 (fun v=>rfl) (fun v h=>⟨h.1,h.2.1,h.2.2.1,h.2.2.2.1,h.2.2.2.2.1,h.2.2.2.2.2.1⟩)
def wf121 (x:S_api_ShNote):Prop:=(Fits .i64) x.Kind∧(Fits .i64) x.A∧(Fits .i64) x.B∧wf66 x.By
def clo121 (x:S_api_ShNote):List D:=[(di x.Kind),(di x.A),(di x.B),(di x.By.Lo),(di x.By.Hi)]
theorem opn121 {H:Type} {enc:TypeId×Value→H} {w:World}:Opens enc Tryz.prog w 121 clo121 wf121 :=
 opens_structG (l:=[(3,0),(3,1),(3,2),(66,3)]) (n:=5) (by kernel_rfl) (by kernel_rfl) (by kernel_rfl) (opensG_cons (sz:=1) (by kernel_rfl) (opens_fit (t:=3) (k := .i64) (by kernel_rfl)) (opensG_cons (sz:=1) (by kernel_rfl) (opens_fit (t:=3) (k := .i64) (by kernel_rfl)) (opensG_cons (sz:=1) (by kernel_rfl) (opens_fit (t:=3) (k := .i64) (by kernel_rfl)) (opensG_cons (sz:=2) (by kernel_rfl) opn66 opensG_nil)))) (fun v=>(⟨v.1,v.2.1,v.2.2.1,v.2.2.2.1⟩:S_api_ShNote)) clo121 wf121 (fun v=>rfl) (fun v h=>⟨h.1,h.2.1,h.2.2.1,h.2.2.2.1⟩)
theorem opn30 {H:Type} {enc:TypeId×Value→H} {w:World}:Opens enc Tryz.prog w 30 (fun xs:List S_api_ShNote=>[D.list false 5 xs.length (xs.flatMap cel121)]) (fun xs=>(∀x∈xs,wf121 x)∧xs.length≤maxLen) :=
 opens_slice (e:=121) (sz:=5) (by kernel_rfl) (by kernel_rfl) (by omega) cel121_len opn121
theorem opn29 {H:Type} {enc:TypeId×Value→H} {w:World}:Opens enc Tryz.prog w 29 (fun xs:List ByteArray=>[D.list false 1 xs.length (xs.flatMap cel9)]) (fun xs=>(∀x∈xs,(fun _=>True) x)∧xs.length≤maxLen) :=
 opens_slice (e:=9) (sz:=1) (by kernel_rfl) (by kernel_rfl) (by omega) cel9_len (opens_str (t:=9) (by kernel_rfl))
def wf32 (x:S_api_ShSheet):Prop:=(Fits .i64) x.Interval∧(fun xs=>(∀x∈xs,(fun _=>True) x)∧xs.length≤maxLen) x.Points∧(fun xs=>(∀x∈xs,wf121 x)∧xs.length≤maxLen) x.Notes
def clo32 (x:S_api_ShSheet):List D:=[(di x.Interval),(L9 x.Points),(L121 x.Notes)]
theorem opn32 {H:Type} {enc:TypeId×Value→H} {w:World}:Opens enc Tryz.prog w 32 clo32 wf32 :=
 opens_structG (l:=[(3,0),(29,1),(30,2)]) (n:=3) (by kernel_rfl) (by kernel_rfl) (by kernel_rfl) (opensG_cons (sz:=1) (by kernel_rfl) (opens_fit (t:=3) (k := .i64) (by kernel_rfl)) (opensG_cons (sz:=1) (by kernel_rfl) opn29 (opensG_cons (sz:=1) (by kernel_rfl) opn30 opensG_nil))) (fun v=>(⟨v.1,v.2.1,v.2.2.1⟩:S_api_ShSheet)) clo32 wf32 (fun v=>rfl) (fun v h=>⟨h.1,h.2.1,h.2.2.1⟩)

theorem awake17:F17 200=some true:=by kernel_rfl
theorem tn {x:List Int} (h:(∀n∈x,Fits .u16 n)∧x.length≤maxLen):Tn x:=⟨fun n hn=>(h.1 n hn).u16,by have:=h.2;unfold maxLen at this;omega⟩
theorem own:ownKnob Tryz.prog.godebug=none:=by kernel_rfl
theorem laid:laidOutB Tryz.prog=true:=by kernel_rfl
def argv (x:S_api_ShSheet×(S_api_ClMap×(S_hachuretop_Painted×Unit))):List D:=[(fun x=>D.agg (clo32 x)) x.1,(fun x=>D.agg (clo47 x)) x.2.1,(fun x=>D.agg (clo50 x)) x.2.2.1]
def argw (x:S_api_ShSheet×(S_api_ClMap×(S_hachuretop_Painted×Unit))):Prop:=wf32 x.1∧wf47 x.2.1∧wf50 x.2.2.1∧True
theorem opens {H:Type} {enc:TypeId×Value→H} {w:World}:ArgsOpen enc Tryz.prog w [32,47,50] argv argw:=(args_cons (arg_struct (by kernel_rfl) opn32) (args_cons (arg_struct (by kernel_rfl) opn47) (args_cons (arg_struct (by kernel_rfl) opn50) args_nil)))
theorem walk (x:S_api_ShSheet×(S_api_ClMap×(S_hachuretop_Painted×Unit))) (h:argw x):PCall Tryz.prog 4 (argv x) (.d (.v (.bool true))):=ct4 (law4 awake7 awake17 x.1 x.2.1 x.2.2.1 (tn h.2.2.1.1) (tn h.2.2.1.2.1) (tn h.2.2.1.2.2))

theorem lifted (os:Os) (started:os.Started) (H:Type) (enc:TypeId×Value→H) :
 ReturnsInHanded {} Tryz.checked os 4 .any (fun w args=>(Rows.topPaintedSpec.pre enc Tryz.prog Tryz.f4 Rows.topPaintedRow.domain false w args∧laidMetH Tryz.prog laid7 w)∧sizedMet enc Tryz.prog Tryz.f4 (OpenSpec.ofChange Rows.topPaintedSpec) false w args) (Rows.topPaintedSpec.post enc Tryz.prog Tryz.f4 false true false false):=by
 refine returnsInHanded_of_change_both (C:=Tryz.checked) (X:=fun w _=>laidMetH Tryz.prog laid7 w) (fun _ _ _ hh h=>h.of_heap hh) own started (by kernel_rfl) Tryz.func4
  (ChangeSpec.witness_shaped (enc:=enc) (C:=Tryz.checked) (os:=os) (X:=fun w _=>laidMetH Tryz.prog laid7 w) false (World.laidAll Tryz.prog os laid7) #[.agg #[.int .i64 0,.slice none 0 0,.slice none 0 0],.agg #[.slice none 0 0,.int .i64 0,.slice none 0 0,.slice none 0 0,.int .i64 0,.slice none 0 0],.agg #[.slice none 0 0,.slice none 0 0,.slice none 0 0]] 12 (World.laidAll_os _ _ _)
   (World.shaped_of_ZipB (by kernel_rfl) (by kernel_rfl)) (by kernel_rfl) (by kernel_rfl) (by kernel_rfl)
   (by rw [MakeChecks.laidMetH_plain _ _ _ (by kernel_rfl)];exact laidMet_laidAll _ (by kernel_rfl) (by kernel_rfl))) ?_
 intro W base args ds gs before hval hW hcnd _ hsh hL _
 refine lawPost (P:=Tryz.prog) (g:=argv) (wf:=argw) laid (show (Tryz.f4.params.toList.all fun t=>Tryz.prog.readableRec t&&decide (t<Tryz.prog.types.size))=true by kernel_rfl) rfl (show Tryz.f4.resultTypes = #[4] by kernel_rfl) (show Tryz.prog.underlying 4=some .bool by kernel_rfl) ?_ ?_ walk hval hW (lay_of hsh hL)
 ·intro ds hd
  have hs:Tryz.f4.params.size=3:=by kernel_rfl
  rw [hs] at hd
  match ds,hd with
  | [d0,d1,d2],_=>rfl
 ·have hp:Tryz.f4.params.toList=[32,47,50]:=by kernel_rfl
  rw [hp];exact opens
theorem over:Rows.topPaintedRow.holds Tryz.pinned (OpenSpec.ofChange Rows.topPaintedSpec) :=
 OpenClaim.holds_of_wide 4 Tryz.f4 rfl rfl rfl rfl rfl rfl rfl ⟨rfl,rfl,rfl,rfl,rfl⟩ rfl rfl rfl rfl rfl (by kernel_rfl) Tryz.func4 closed
  (of_decide_eq_true (by kernel_rfl)) (by unfold Func.isWrapper;first|(rw [if_pos (by decide +kernel)];kernel_rfl)|(rw [if_neg (by decide +kernel)];exact ⟨rfl,rfl⟩))
  (fun os started H enc _=>lifted os started H enc)

end Go.Proofs.YtkcgfceihpampaaGreatDoor.topPainted
