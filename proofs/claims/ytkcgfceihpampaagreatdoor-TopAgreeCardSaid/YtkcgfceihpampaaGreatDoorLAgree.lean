/- TopAgree holds of any case, and of what its sheets show. -/
import Derived.Test.YtkcgfceihpampaaGreatDoorLAA
import Derived.Test.YtkcgfceihpampaaGreatDoorRows
import Derived.Test.YtkcgfceihpampaaGreatDoorCZ
import Derived.Test.YtkcgfceihpampaaGreatDoorPH
import Derived.Test.YtkcgfceihpampaaGreatDoorPK
import Derived.Test.YtkcgfceihpampaaGreatDoorNL
import Derived.Test.YtkcgfceihpampaaGreatDoorCards
import Derived.Test.YtkcgfceihpampaaGreatDoorTie
import Derived.Lay
import Derived.SevenTiedAt
import Derived.ProofKit
import Derived.Stop.Joined
namespace Go.Proofs.YtkcgfceihpampaaGreatDoor.topAgree
open Go Go.ChangeShapes Go.WideShapes Go.ChangeAt Go.RowKit Go.Sx
set_option linter.all false
set_option maxRecDepth 100000
theorem proved:Rows.TopAgreeCardSaid :=
 Claim7.holds_tied_plain_at .later [] [.data,.data,.data,.data,.sentinel,.sentinel,.pinned] true (true,"b73af0af3f181b2f590bcc6cd50c7f19a6d67d37c5a12bca7fdcc7e8cc8c526e") true over (fun _ h=>by cases h) (by kernel_rfl) (fun _ h=>by cases h) topAgree_row_tie rfl ⟨rfl,rfl⟩ (by kernel_rfl) rfl
  (fun f fn hf hfn=>by
   obtain rfl:f=5:=Option.some.inj ((show Tryz.prog.funcNamed "hachure/hachuretop.TopAgree" = some 5 by kernel_rfl).symm.trans hf) |>.symm;obtain rfl:fn=Tryz.f5:=(Option.some.inj (Tryz.func5.symm.trans hfn)).symm
   exact ⟨by kernel_rfl,fun j t ht=>by
    have hp:Tryz.f5.params = #[76,79]:=by kernel_rfl
    rw [hp] at ht;have hm:t∈[76,79]:=by simpa using Array.mem_of_getElem? ht
    have hall:([76,79].all fun u => !Tryz.prog.wantsStandIn u)=true:=by kernel_rfl
    exact (show Tryz.prog.wantsStandIn t=false by simpa using ZB.1 hall t hm)⟩)
  (by kernel_rfl)
end Go.Proofs.YtkcgfceihpampaaGreatDoor.topAgree
