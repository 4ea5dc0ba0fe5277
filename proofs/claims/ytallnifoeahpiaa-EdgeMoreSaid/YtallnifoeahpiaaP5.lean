/- Changes by turns; whether changes agree. -/
import Derived.Test.YtallnifoeahpiaaP1
import Derived.Test.YtallnifoeahpiaaPK
import Derived.Test.YtallnifoeahpiaaDLV
import Derived.Test.YtallnifoeahpiaaDLU
namespace Go.Proofs.Ytallnifoeahpiaa
open Go Go.Sx
set_option linter.all false
theorem ag_iff {c:Cs} {l:List Int}:Ag c l↔inR c l∧oddF c l<0:=by
 unfold Ag inR
 rw [fe_iff]
 exact ⟨fun h=>⟨⟨h.1,h.2.1⟩,h.2.2⟩,fun h=>⟨h.1.1,h.1.2,h.2⟩⟩
theorem e36 {k:Nat} (hk:17≤k) (c:Cs):F36 k c=some ((chk c).2.2==0):=by
 unfold F36
 rw [e17 hk,Option.bind_some]
theorem e38 {k:Nat} (hk:17≤k) {c:Cs} (h:(chk c).2.2=0) {l:List Int} (hr:inR c l):F38 k c l=some (decide (oddF c l<0)):=by
 have hv:=chk_val (chk_err h)
 unfold F38
 rw [e61 hk,Option.bind_some,chE_zero.2 ⟨h,hr⟩]
 simp only [beq_self_eq_true,optG_true,cond_true]
 rw [e62 (by omega) hv hr.1 (near_inR hv hr),Option.bind_some]

def Small (x:List Int):Prop:=(∀v∈x,0≤v∧v≤255)∧x.length≤9223372036854775807
theorem i64_id {n:Int} (h1 : -9223372036854775808≤n) (h2:n≤9223372036854775807):IntKind.i64.wrap n=n:=w64_id h1 h2
theorem e77 {x:List Int} (hx:Small x) {n:Int} (hn:0≤n):∃v,F77 x n=some v∧0≤v∧v≤255:=by
 unfold F77
 by_cases h:x.length=0
 ·rw [if_pos (by simp [h])]
  exact ⟨0,rfl,by omega,by omega⟩
 ·have hp:(0:Int)<(x.length:Int):=by omega
  have h1:0≤n.tmod (x.length:Int):=Int.tmod_nonneg _ hn
  have h2:n.tmod (x.length:Int)<(x.length:Int):=Int.tmod_lt_of_pos _ hp
  have h3:=hx.1 _ (mem_get (l:=x) (i:=(n.tmod (x.length:Int)).toNat) (by omega))
  rw [if_neg (by simpa using h),need_true (by omega),Option.bind_some,idx_bang h1 h2,Option.bind_some,i64_id (by omega) (by omega)]
  exact ⟨_,rfl,h3⟩
theorem e37 {k:Nat} {c:Cs} (hk:10≤k) (hv:Val c) {x:List Int} (hx:Small x):∃l,F37 k c x=some l∧inR c l:=by
 have hs:=hv.sheets
 have key:∀(m i g:Nat) (s:List Int),m+i=c.Sheets.length→m<g→s.length=i→(∀j,j<i → -c.Sheets[j]!.Most≤s[j]! ∧ s[j]! ≤ c.Sheets[j]!.Most)→∃l,F37L1 c x g ((i:Int),s)=some (.inr l)∧inR c l:=by
  intro m
  induction m with
  | zero =>
   intro i g s hm hg hs' hb
   obtain ⟨g,rfl⟩:∃q,g=q+1:=⟨g-1,by omega⟩
   refine ⟨s,?_,by omega,fun j hj=>hb j (by omega)⟩
   rw [F37L1]
   dsimp only
   rw [if_neg (by simp;omega)]
  | succ m ih =>
   intro i g s hm hg hs' hb
   obtain ⟨g,rfl⟩:∃q,g=q+1:=⟨g-1,by omega⟩
   have hi:i<c.Sheets.length:=by omega
   have hmo:=most_ok hv hi
   obtain ⟨v,h1,h2,h3⟩:=e77 hx (n:=(i:Int)) (by omega)
   have t1:0≤v.tmod (2*c.Sheets[i]!.Most+1):=Int.tmod_nonneg _ h2
   have t2:v.tmod (2*c.Sheets[i]!.Most+1)<2*c.Sheets[i]!.Most+1:=Int.tmod_lt_of_pos _ (by omega)
   rw [F37L1]
   dsimp only
   rw [if_pos (by simp;omega),idx_nat hi,Option.bind_some,h1,Option.bind_some,w64_id (n:=2*c.Sheets[i]!.Most) (by omega) (by omega),w64_id (n:=2*c.Sheets[i]!.Most+1) (by omega) (by omega),need_true (by omega),Option.bind_some,w64_id (n:=v.tmod _-_) (by omega) (by omega),need_true (by simp only [List.length_cons,List.length_nil];omega),Option.bind_some,w64_id (n:=(i:Int)+1) (by omega) (by omega)]
   refine ih (i+1) g (s++[v.tmod (2*c.Sheets[i]!.Most+1)-c.Sheets[i]!.Most]) (by omega) (by omega) (by simp;omega) (fun j hj=>?_)
   subst hs'
   by_cases e:j<s.length
   ·rw [getElem!_pos (s++_) j (by simp;omega),List.getElem_append_left e]
    have:=hb j e
    rw [getElem!_pos s j e] at this
    exact this
   ·have e2:j=s.length:=by omega
    subst e2
    have e3:(s++[v.tmod (2*c.Sheets[s.length]!.Most+1)-c.Sheets[s.length]!.Most])[s.length]! = v.tmod (2*c.Sheets[s.length]!.Most+1)-c.Sheets[s.length]!.Most:=by
     rw [getElem!_pos (s++_) _ (by simp),List.getElem_append_right (Nat.le_refl _)];simp
    rw [e3]
    omega
 obtain ⟨l,h1,h2⟩:=key c.Sheets.length 0 k [] (by omega) (by omega) rfl (fun j hj=>by omega)
 unfold F37
 rw [show ((0:Int),([]:List Int))=(((0:Nat):Int),[]) from rfl,h1,Option.bind_some]
 exact ⟨l,rfl,h2⟩
theorem near_ag {c:Cs} (hv:Val c) {x:List Int} (hx:Ag c x):near c x:=fun i hi=>by
 have h1:=hx.2.box i hi
 have h2:=most_ok hv hi
 omega
end Go.Proofs.Ytallnifoeahpiaa
