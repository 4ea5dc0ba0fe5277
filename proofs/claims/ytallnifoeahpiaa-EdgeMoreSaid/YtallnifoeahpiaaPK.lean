/- The calls of Awake answer as they should; lists that are alike. -/
import Derived.Test.YtallnifoeahpiaaPL
import Derived.Test.YtallnifoeahpiaaDW
import Derived.KernelRfl
namespace Go.Proofs.Ytallnifoeahpiaa
open Go Go.Sx
set_option linter.all false
set_option maxRecDepth 100000
theorem awake:F24 1000=some true:=by kernel_rfl
theorem e29 {k:Nat} {l:List Int} (hk:l.length<k) (hl:l.length<2^62):F29 k l l=some true:=by
 unfold F29
 rw [if_neg (by simp)]
 have h:=for_loop (l:=l) (L:=F29L1 l l) (β:=Bool) (γ:=Unit) (σ:=Unit) (fun i _=>(i:Int)) (fun s=>s) (fun _ _ _ => .inr ()) (fun _ _=>True) (fun _ _ _ _ _ _=>trivial)
  (fun n i s hi _=>by
   rw [F29L1,if_pos (by simp;omega),idx_nat hi,Option.bind_some,Option.bind_some,if_neg (by simp),w64_id (by omega) (by omega)]
   rfl)
  (fun n s _=>by rw [F29L1,if_neg (by simp)]) k () trivial hk
 have hr:∀(l:List Int) (i:Nat),runE (β:=Bool) (fun _ _ (_:Unit) => .inr ()) l i () = .inr ():=by
  intro l
  induction l with
  | nil=>intro i;rfl
  | cons x l ih=>intro i;rw [runE];exact ih (i+1)
 rw [show (0:Int)=((0:Nat):Int) from rfl,h,hr]
 rfl
end Go.Proofs.Ytallnifoeahpiaa
