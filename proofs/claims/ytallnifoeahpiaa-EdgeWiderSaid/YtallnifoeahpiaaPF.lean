/- The reference's Wants; changes; what they agree with, and cost. -/
import Derived.Test.YtallnifoeahpiaaPE
namespace Go.Proofs.Ytallnifoeahpiaa
open Go Go.Sx
set_option linter.all false

theorem e58 {k:Nat} {c:Cs} (hk:10≤k) (hv:Val c) {x:Eg} (hx:x∈c.Edges):F58 k c x=some (⟨(want c x).1,(want c x).2⟩,decide ((want c x).1≤(want c x).2)):=by
 have he:=hv.eg x hx
 have ht:=hv.tol
 obtain ⟨p,ps,hps⟩:∃p ps,x.Points=p::ps:=by
  cases hpp:x.Points with
  | nil=>rw [hpp] at he;simp at he
  | cons p l=>exact ⟨p,l,rfl⟩
 have hp:=he.2.2.2.2.2.2.2 p (by rw [hps];simp)
 have hlen:ps.length≤3:=by have:=he.2.2.2.2.2.2.1;rw [hps] at this;simp at this;omega
 have h0:idx x.Points 0=some p:=by rw [hps];rfl
 have hpt:∀i,i<ps.length→0≤ps[i]!.A∧ps[i]!.A≤9000∧0≤ps[i]!.B∧ps[i]!.B≤9000:=fun i hi=>he.2.2.2.2.2.2.2 _ (by rw [hps];exact List.mem_cons_of_mem _ (mem_get hi))
 have hget:∀i,i<ps.length→idx x.Points ((i:Int)+1)=some ps[i]! := by
  intro i hi
  rw [hps,show (i:Int)+1=((i+1:Nat):Int) by simp,idx_nat (by simp;omega)]
  simp only [getElem!_pos (p::ps) (i+1) (by simp;omega),getElem!_pos ps i hi]
  rfl
 have hL:x.Points.length=ps.length+1:=by rw [hps];simp
 have h:=for_fold (l:=ps) (L:=F58L1 c x) (β:=S_api_Span×Bool) (σ:=Int×Int) (fun i s=>((i:Int)+1,s.1,s.2)) (fun s=>s) (fun _ p s=>wstep c.Tol s p) (fun _ _=>True) (fun _ _ _ _=>trivial)
  (fun n i s hi _=>by
   have hp:=hpt i hi
   rw [F58L1]
   dsimp only
   rw [if_pos (by simp;omega),hget i hi,Option.bind_some,Option.bind_some,w64_id (n:=ps[i]!.B-ps[i]!.A) (by omega) (by omega),w64_id (n:=ps[i]!.B-ps[i]!.A-c.Tol) (by omega) (by omega),w64_id (n:=ps[i]!.B-ps[i]!.A+c.Tol) (by omega) (by omega),w64_id (by omega) (by omega)]
   rfl)
  (fun n s _=>by rw [F58L1,if_neg (by simp;omega)]) k (p.B-p.A-c.Tol,p.B-p.A+c.Tol) trivial (by omega)
 unfold F58
 rw [h0]
 simp only [Option.bind_some]
 rw [w64_id (n:=p.B-p.A) (by omega) (by omega),w64_id (n:=p.B-p.A-c.Tol) (by omega) (by omega),w64_id (n:=p.B-p.A+c.Tol) (by omega) (by omega)]
 have h':F58L1 c x k (1,p.B-p.A-c.Tol,p.B-p.A+c.Tol)=_:=h
 rw [h',Option.bind_some,foldI_const]
 have hw:List.foldl (fun s p=>wstep c.Tol s p) (p.B-p.A-c.Tol,p.B-p.A+c.Tol) ps=want c x:=by
  unfold want
  rw [hps,List.foldl_cons]
  congr 1
  simp only [wstep]
  rw [if_pos (by omega),if_pos (by omega)]
 rw [hw]
 rfl
theorem e19 {k:Nat} (hk:17≤k) (c:Cs) (i:Int) (hl:c.Edges.length≤9223372036854775807):F19 k c i=some (wantsE c i):=by
 unfold F19 wantsE
 rw [e17 hk,Option.bind_some,w64_id (by omega) (by omega),e54]
 by_cases h:(chk c).2.2=0
 ·have hv:=chk_val (chk_err h)
  have hb:((chk c).2.2==0)=true:=by simpa using h
  rw [hb,optG_true,Option.bind_some,if_neg (show ¬((chk c).2.2 != 0)=true by simpa using h)]
  cases hok:okN 0 ((c.Edges.length:Int)-1) i with
  | false=>rfl
  | true =>
   have hr:=okN_iff.1 hok
   have hm:=hv.edges
   simp only [Bool.not_true,cond_true,Bool.false_eq_true,if_false,Option.bind_some,outK,if_true]
   rw [if_neg (by simpa using h),idx_bang (by omega) (by omega),Option.bind_some,e58 (by omega) hv (mem_get (by omega)),Option.bind_some]
   by_cases hd:lo c i.toNat≤hi c i.toNat
   ·rw [show decide ((want c c.Edges[i.toNat]!).1≤(want c c.Edges[i.toNat]!).2)=true from decide_eq_true hd,if_pos hd];rfl
   ·rw [show decide ((want c c.Edges[i.toNat]!).1≤(want c c.Edges[i.toNat]!).2)=false from decide_eq_false hd,if_neg hd];rfl
 ·have hb:((chk c).2.2==0)=false:=by simpa using h
  rw [hb,optG_false,Option.bind_some]
  simp only [cond_false,Bool.false_eq_true,if_false,Option.bind_some,outK]
  rw [if_pos (by simpa using h),if_pos (by simpa using h)]



def inR (c:Cs) (l:List Int):Prop:=l.length=c.Sheets.length∧∀i,i<c.Sheets.length → -c.Sheets[i]!.Most≤l[i]! ∧ l[i]! ≤ c.Sheets[i]!.Most
def okC (c:Cs) (i:Nat) (x:Int):Bool:=okN (-c.Sheets[i]!.Most) c.Sheets[i]!.Most x

def offB (c:Cs) (l:List Int):Option Nat:=fstB (fun i => !okC c i l[i]!) (List.range c.Sheets.length) 0

def far (c:Cs):List Int→Nat→Bool
 | [],_=>false
 | x::l,i => !okC c i x||far c l (i+1)
theorem far_iff {c:Cs} {l:List Int} (hl:l.length=c.Sheets.length):far c l 0=false↔inR c l:=by
 have key:∀(suf pre:List Int),l=pre++suf→(far c suf pre.length=false↔∀i,pre.length≤i→i<l.length→okC c i l[i]! = true):=by
  intro suf
  induction suf with
  | nil=>intro pre h;rw [List.append_nil] at h;subst h;exact ⟨fun _ i h1 h2=>by omega,fun _=>rfl⟩
  | cons x suf ih =>
   intro pre h
   have hi:pre.length<l.length:=by rw [h];simp
   have hx:l[pre.length]! = x:=by rw [getElem!_pos l _ hi];simp [h]
   have h2:=ih (pre++[x]) (by simp [h])
   simp only [List.length_append,List.length_cons,List.length_nil,Nat.zero_add] at h2
   rw [far,Bool.or_eq_false_iff,h2]
   constructor
   ·rintro ⟨h3,h4⟩ i h5 h6
    rcases Nat.eq_or_lt_of_le h5 with rfl|h7
    ·rw [hx];simpa using h3
    ·exact h4 i h7 h6
   ·intro h3
    refine ⟨?_,fun i h5 h6=>h3 i (by omega) h6⟩
    have:=h3 pre.length (Nat.le_refl _) hi
    rw [hx] at this;simp [this]
 have:=key l [] rfl
 simp only [List.length_nil] at this
 rw [this]
 constructor
 ·intro h
  exact ⟨hl,fun i hi=>okN_iff.1 (h i (by omega) (by omega))⟩
 ·intro h i _ hi
  exact okN_iff.2 (h.2 i (by omega))

def chE (c:Cs) (l:List Int):Int:=if (chk c).2.2 != 0 then (chk c).2.2 else if l.length=c.Sheets.length then (if far c l 0 then 7 else 0) else 3
theorem chE_zero {c:Cs} {l:List Int}:chE c l=0↔(chk c).2.2=0∧inR c l:=by
 unfold chE
 split
 ·rename_i h;simp at h;simp [h]
 ·rename_i h
  simp at h
  split
  ·rename_i h2
   have:=far_iff h2
   cases hf:far c l 0 with
   | true=>rw [hf] at this;simp at this;simp [h,this]
   | false=>rw [hf] at this;simp at this;simp [h,this]
  ·rename_i h2
   simp [h,inR,h2]
theorem most_ok {c:Cs} (hv:Val c) {i:Nat} (hi:i<c.Sheets.length):0≤c.Sheets[i]!.Most∧c.Sheets[i]!.Most≤6∧0≤c.Sheets[i]!.Weight∧c.Sheets[i]!.Weight≤20:=by
 have:=hv.sh _ (mem_get hi)
 omega
theorem e61L1 {k:Nat} {c:Cs} (hk:17≤k) (hv:Val c) {l:List Int} (hl:l.length=c.Sheets.length):∀(suf pre:List Int) (n:Nat),l=pre++suf→suf.length<n→F61L1 c l n (0,(pre.length:Int))=some (.inr (if far c suf pre.length then 7 else 0)):=by
 have hs:=hv.sheets
 intro suf
 induction suf with
 | nil =>
  intro pre n h hn
  obtain ⟨n,rfl⟩:∃q,n=q+1:=⟨n-1,by simp at hn;omega⟩
  rw [List.append_nil] at h;subst h
  rw [F61L1,if_neg (by simp)];rfl
 | cons x suf ih =>
  intro pre n h hn
  obtain ⟨n,rfl⟩:∃q,n=q+1:=⟨n-1,by simp at hn;omega⟩
  have hi:pre.length<l.length:=by rw [h];simp
  have hx:l[pre.length]! = x:=by rw [getElem!_pos l _ hi];simp [h]
  have hm:=most_ok hv (i:=pre.length) (by omega)
  rw [F61L1]
  dsimp only
  rw [if_pos (by simp;omega),idx_nat hi,Option.bind_some,idx_nat (by omega),Option.bind_some,Option.bind_some,w64_id (n:=0-c.Sheets[pre.length]!.Most) (by omega) (by omega),e54,Option.bind_some,hx,w64_id (by omega) (by omega),far]
  have hz:okN (0-c.Sheets[pre.length]!.Most) c.Sheets[pre.length]!.Most x=okC c pre.length x:=by unfold okC;congr 1;omega
  rw [hz]
  cases hok:okC c pre.length x with
  | true =>
   simp only [Bool.not_true,Bool.false_eq_true,if_false,Bool.false_or]
   have:=ih (pre++[x]) n (by simp [h]) (by simp at hn;omega)
   simpa using this
  | false =>
   simp only [Bool.not_false,if_true,Bool.true_or]
   obtain ⟨n,rfl⟩:∃q,n=q+1:=⟨n-1,by simp at hn;omega⟩
   rw [F61L1,if_neg (by simp)]
theorem e61 {k:Nat} {c:Cs} (hk:17≤k) (l:List Int):F61 k c l=some (chE c l):=by
 unfold F61 chE
 rw [e17 hk,Option.bind_some]
 by_cases h:(chk c).2.2=0
 ·have hv:=chk_val (chk_err h)
  have hs:=hv.sheets
  have hb:((chk c).2.2==0)=true:=by simpa using h
  rw [hb,if_neg (show ¬((chk c).2.2 != 0)=true by simpa using h)]
  by_cases hl:l.length=c.Sheets.length
  ·rw [if_neg (by simp [hl]),if_pos hl,Option.bind_some]
   simp only [outK]
   rw [h]
   have:=e61L1 hk hv hl l [] k rfl (by omega)
   simp only [List.length_nil] at this
   rw [show ((0:Int),(0:Int))=(0,((0:Nat):Int)) from rfl,this,Option.bind_some]
  ·rw [if_pos (by simp;omega),if_neg hl,Option.bind_some]
   simp only [outK]
   obtain ⟨k,rfl⟩:∃q,k=q+1:=⟨k-1,by omega⟩
   rw [F61L1,if_neg (by simp),Option.bind_some]
 ·have hb:((chk c).2.2==0)=false:=by simpa using h
  rw [hb,if_pos (show ((chk c).2.2 != 0)=true by simpa using h),if_neg (by simp),Option.bind_some]
  simp only [outK]
  obtain ⟨k,rfl⟩:∃q,k=q+1:=⟨k-1,by omega⟩
  rw [F61L1,if_neg (by simp [h]),Option.bind_some]
end Go.Proofs.Ytallnifoeahpiaa
