/- TopPainted holds of any sheet, map and truth. -/
import Derived.Test.YtkcgfceihpampaaGreatDoorLPA
import Derived.Test.YtkcgfceihpampaaGreatDoorRows
import Derived.Test.YtkcgfceihpampaaGreatDoorCZ
import Derived.Test.YtkcgfceihpampaaGreatDoorPV
import Derived.Test.YtkcgfceihpampaaGreatDoorPK
import Derived.Test.YtkcgfceihpampaaGreatDoorNL
import Derived.Test.YtkcgfceihpampaaGreatDoorCards
import Derived.Test.YtkcgfceihpampaaGreatDoorTie
import Derived.Lay
import Derived.SevenTiedAt
import Derived.ProofKit
import Derived.Stop.Joined
namespace Go.Proofs.YtkcgfceihpampaaGreatDoor.topPainted
open Go Go.ChangeShapes Go.WideShapes Go.ChangeAt Go.RowKit Go.Sx
set_option linter.all false
set_option maxRecDepth 100000
theorem proved:Rows.TopPaintedCardSaid :=
 Claim7.holds_tied_plain_at .later [] [.data,.data,.data,.data,.sentinel,.sentinel,.pinned] true (true,"b73af0af3f181b2f590bcc6cd50c7f19a6d67d37c5a12bca7fdcc7e8cc8c526e") true over (fun _ h=>by cases h) (by kernel_rfl) (fun _ h=>by cases h) topPainted_row_tie rfl ⟨rfl,rfl⟩ (by kernel_rfl) rfl
  (fun f fn hf hfn=>by
   obtain rfl:f=4:=Option.some.inj ((show Tryz.prog.funcNamed "hachure/hachuretop.TopPainted" = some 4 by kernel_rfl).symm.trans hf) |>.symm
   obtain rfl:fn=Tryz.f4:=(Option.some.inj (Tryz.func4.symm.trans hfn)).symm
   exact ⟨by kernel_rfl,fun j t ht=>by
    have hp:Tryz.f4.params = #[32,47,50]:=by kernel_rfl
    rw [hp] at ht
    have hm:t∈[32,47,50]:=by simpa using Array.mem_of_getElem? ht
    have hall:([32,47,50].all fun u => !Tryz.prog.wantsStandIn u)=true:=by kernel_rfl
    exact (show Tryz.prog.wantsStandIn t=false by simpa using List.all_eq_true.1 hall t hm)⟩)
  (by kernel_rfl)
end Go.Proofs.YtkcgfceihpampaaGreatDoor.topPainted
