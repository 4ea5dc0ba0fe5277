/- The law EdgeLeast. -/
import Derived.Test.YtallnifoeahpiaaP5
namespace Go.Proofs.Ytallnifoeahpiaa
open Go Go.Sx
set_option linter.all false
theorem law7 (c:Cs) (x:List Int) (hx:Small x):F7 1000 c x=some true:=by
 obtain ⟨r,h1,h2⟩:=e27 (k:=1000) (by omega) c
 unfold F7
 rw [h1,Option.bind_some,e36 (by omega),Option.bind_some]
 rcases h2 with ⟨a1,a2⟩|⟨a1,a2,a3⟩|⟨a1,a2,a3,a4,a5⟩
 ·subst a2
  have hb:((chk c).2.2==0)=false:=by simpa using a1
  have hb2:((chk c).2.2 != 0)=true:=by simpa using a1
  rw [hb,if_pos (by rfl)]
  simp only [hb2,awake]
  rfl
 ·subst a3
  have hv:=chk_val (chk_err a1)
  have hb:((chk c).2.2==0)=true:=by simpa using a1
  obtain ⟨l,b1,b2⟩:=e37 (k:=1000) (by omega) hv hx
  have hno:¬oddF c l<0:=fun h=>a2 l (ag_iff.2 ⟨b2,h⟩)
  rw [hb,if_neg (by simp),b1,Option.bind_some,e38 (by omega) a1 b2,Option.bind_some,decide_eq_false hno]
  simp only [awake]
  rfl
 ·have hv:=chk_val (chk_err a1)
  have hb:((chk c).2.2==0)=true:=by simpa using a1
  have hag:=ag_iff.1 a4
  obtain ⟨l,b1,b2⟩:=e37 (k:=1000) (by omega) hv hx
  rw [hb,if_neg (by simp),b1,Option.bind_some,e38 (by omega) a1 b2,Option.bind_some,if_neg (by simp [a2]),e38 (by omega) a1 hag.1,Option.bind_some,decide_eq_true hag.2,optG_true,e39 (by omega) hv a4.1 (near_ag hv a4),Option.bind_some,a3]
  simp only [beq_self_eq_true,cond_true]
  by_cases ho:oddF c l<0
  ·have hc:=(a5 l (ag_iff.2 ⟨b2,ho⟩)).1
   rw [decide_eq_true ho]
   simp only [Bool.not_true,Bool.not_false,Bool.and_self,optG_true,cond_false]
   rw [e39 (by omega) hv b2.1 (near_inR hv b2),Option.bind_some,decide_eq_true (by omega)]
   simp only [cond_true,optG_true,awake]
   rfl
  ·rw [decide_eq_false ho]
   simp only [Bool.not_true,Bool.not_false,Bool.and_false,optG_false,cond_true,Option.bind_some,optG_true,awake]
end Go.Proofs.Ytallnifoeahpiaa
