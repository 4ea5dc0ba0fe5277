/- What edges want; a case that is looked at; changes that are entered. -/
import Derived.Test.YtallnifoeahpiaaPD
import Derived.Test.YtallnifoeahpiaaDEC
import Derived.Test.YtallnifoeahpiaaDRB
namespace Go.Proofs.Ytallnifoeahpiaa
open Go Go.Sx
set_option linter.all false


def sumN:Nat→(Nat→Int)→Int
 | 0,_=>0
 | n+1,f=>sumN n f+f n
theorem sumN_congr {f g:Nat→Int}:∀{n:Nat},(∀i,i<n→f i=g i)→sumN n f=sumN n g:=by
 intro n
 induction n with
 | zero=>intro _;rfl
 | succ n ih=>intro h;rw [sumN,sumN,ih (fun i hi=>h i (by omega)),h n (by omega)]
theorem foldI_sum {α:Type} [Inhabited α] (g:Nat→α→Int) (l:List α):foldI (fun i x n=>n+g i x) l 0 0=sumN l.length (fun i=>g i l[i]!):=by
 have h:=foldI_inv (l:=l) (fun i x n=>n+g i x) (fun j n=>n=sumN j (fun i=>g i l[i]!)) (fun i s hi hp=>by rw [hp];rfl) 0 rfl
 exact h
theorem sumN_bound {f:Nat→Int} {b:Int} (hb:0≤b):∀{n:Nat},(∀i,i<n→0≤f i∧f i≤b)→0≤sumN n f∧sumN n f≤n*b:=by
 intro n
 induction n with
 | zero=>intro _;simp [sumN]
 | succ n ih =>
  intro h
  have h1:=ih (fun i hi=>h i (by omega))
  have h2:=h n (by omega)
  have e:((n+1:Nat):Int)*b=n*b+b:=by rw [Int.natCast_add,Int.add_mul];simp
  rw [sumN,e]
  omega


def wstep (t:Int) (w:Int×Int) (p:Pt):Int×Int:=(if p.B-p.A-t>w.1 then p.B-p.A-t else w.1,if p.B-p.A+t<w.2 then p.B-p.A+t else w.2)

def want (c:Cs) (x:Eg):Int×Int:=x.Points.foldl (wstep c.Tol) (-18000,18000)
theorem wfold_iff {t:Int}:∀(l:List Pt) (w:Int×Int) (d:Int),((l.foldl (wstep t) w).1≤d∧d≤(l.foldl (wstep t) w).2)↔(w.1≤d∧d≤w.2∧∀p∈l,p.B-p.A-t≤d∧d≤p.B-p.A+t):=by
 intro l
 induction l with
 | nil=>intro w d;simp
 | cons p l ih =>
  intro w d
  rw [List.foldl_cons,ih]
  simp only [wstep,List.mem_cons,forall_eq_or_imp]
  constructor
  ·rintro ⟨h1,h2,h3⟩
   split at h1<;>split at h2<;>exact ⟨by omega,by omega,⟨by omega,by omega⟩,h3⟩
  ·rintro ⟨h1,h2,h3,h4⟩
   refine ⟨?_,?_,h4⟩<;>split<;>omega
theorem wfold_bound {t:Int} (ht:0≤t∧t≤50):∀(l:List Pt),(∀p∈l,0≤p.A∧p.A≤9000∧0≤p.B∧p.B≤9000)→∀(w:Int×Int),(-18000≤w.1∧w.1≤9000)∧(-9000≤w.2∧w.2≤18000) →
 (-18000≤(l.foldl (wstep t) w).1∧(l.foldl (wstep t) w).1≤9000)∧(-9000≤(l.foldl (wstep t) w).2∧(l.foldl (wstep t) w).2≤18000):=by
 intro l
 induction l with
 | nil=>intro _ w hw;exact hw
 | cons p l ih =>
  intro hl w hw
  rw [List.foldl_cons]
  have hp:=hl p (by simp)
  refine ih (fun q hq=>hl q (List.mem_cons_of_mem _ hq)) _ ?_
  simp only [wstep]
  refine ⟨?_,?_⟩<;>split<;>omega
theorem want_bound {c:Cs} (hv:Val c) {x:Eg} (hx:x∈c.Edges) : -18000≤(want c x).1∧(want c x).1≤9000 ∧ -9000≤(want c x).2∧(want c x).2≤18000:=by
 have:=wfold_bound hv.tol x.Points (hv.eg x hx).2.2.2.2.2.2.2 (-18000,18000) ⟨⟨by decide,by decide⟩,by decide,by decide⟩
 exact ⟨this.1.1,this.1.2,this.2.1,this.2.2⟩
theorem want_iff {c:Cs} (hv:Val c) {x:Eg} (hx:x∈c.Edges) (d:Int):((want c x).1≤d∧d≤(want c x).2)↔∀p∈x.Points,p.B-p.A-c.Tol≤d∧d≤p.B-p.A+c.Tol:=by
 unfold want
 rw [wfold_iff]
 refine ⟨fun h=>h.2.2,fun h=>⟨?_,?_,h⟩⟩
 all_goals
  have he:=hv.eg x hx
  have ht:=hv.tol
  obtain ⟨p,hp⟩:∃p,p∈x.Points:=by
   cases hpp:x.Points with
   | nil=>rw [hpp] at he;simp at he
   | cons p l=>exact ⟨p,by simp⟩
  have h1:=h p hp
  have h2:=he.2.2.2.2.2.2.2 p hp
  simp only
  omega


def lo (c:Cs) (i:Nat):Int:=(want c c.Edges[i]!).1
def hi (c:Cs) (i:Nat):Int:=(want c c.Edges[i]!).2

def wl (c:Cs):List Int:=foldI (fun i x (w:List Int)=>(w.set (0+i*2) (want c x).1).set (0+i*2+1) (want c x).2) c.Edges 0 (List.replicate 16 0)
theorem mem_get {α:Type} [Inhabited α] {l:List α} {i:Nat} (h:i<l.length):l[i]! ∈ l:=by rw [getElem!_pos l i h];exact List.getElem_mem h
theorem wl_inv {c:Cs} (hv:c.Edges.length≤8):(wl c).length=16∧∀i,i<c.Edges.length→(wl c)[0+i*2]? = some (lo c i)∧(wl c)[0+i*2+1]? = some (hi c i):=by
 have h:=foldI_inv (l:=c.Edges) (fun i x (w:List Int)=>(w.set (0+i*2) (want c x).1).set (0+i*2+1) (want c x).2) (fun j w=>w.length=16∧∀i,i<j→w[0+i*2]? = some (lo c i)∧w[0+i*2+1]? = some (hi c i))
  (fun i w hi' hp=>by
   refine ⟨by simp [hp.1],fun q hq=>?_⟩
   rcases Nat.lt_succ_iff_lt_or_eq.1 hq with hlt|rfl
   ·have:=hp.2 q hlt
    rw [List.getElem?_set_ne (by omega),List.getElem?_set_ne (by omega),List.getElem?_set_ne (by omega),List.getElem?_set_ne (by omega)]
    exact this
   ·rw [List.getElem?_set_ne (by omega),List.getElem?_set_self (by rw [hp.1];omega),List.getElem?_set_self (by rw [List.length_set,hp.1];omega)]
    exact ⟨rfl,rfl⟩) (List.replicate 16 0) ⟨by simp,fun i hi'=>by omega⟩
 exact h
theorem foldI_const {α σ:Type} (g:σ→α→σ):∀(l:List α) (i:Nat) (s:σ),foldI (fun _ x s=>g s x) l i s=l.foldl g s:=by
 intro l
 induction l with
 | nil=>intro i s;rfl
 | cons x l ih=>intro i s;rw [foldI,List.foldl_cons];exact ih _ _

theorem e57L2 {k:Nat} {c:Cs} (hk:10≤k) (hv:Val c) {x:Eg} (hx:x∈c.Edges):F57v1L2 c x k (-18000,18000,0)=some (.inr (want c x)):=by
 have he:=hv.eg x hx
 have ht:=hv.tol
 have hpt:∀i,i<x.Points.length→0≤x.Points[i]!.A∧x.Points[i]!.A≤9000∧0≤x.Points[i]!.B∧x.Points[i]!.B≤9000:=fun i hi=>he.2.2.2.2.2.2.2 _ (mem_get hi)
 have h:=for_fold (l:=x.Points) (L:=F57v1L2 c x) (β:=Int) (σ:=Int×Int) (fun i s=>(s.1,s.2,(i:Int))) (fun s=>s) (fun _ p s=>wstep c.Tol s p) (fun _ _=>True) (fun _ _ _ _=>trivial)
  (fun n i s hi _=>by
   have hp:=hpt i hi
   rw [F57v1L2]
   dsimp only
   rw [if_pos (by simp;omega),idx_nat hi,Option.bind_some,w64_id (n:=x.Points[i]!.B-x.Points[i]!.A) (by omega) (by omega),w64_id (n:=x.Points[i]!.B-x.Points[i]!.A-c.Tol) (by omega) (by omega),w64_id (n:=x.Points[i]!.B-x.Points[i]!.A+c.Tol) (by omega) (by omega),w64_id (by omega) (by omega)]
   rfl)
  (fun n s _=>by rw [F57v1L2,if_neg (by simp)]) k (-18000,18000) trivial (by omega)
 rw [foldI_const] at h
 exact h
theorem e57L1 {k:Nat} {c:Cs} (hk:10≤k) (hv:Val c):F57v1L1 k c k (0,List.replicate 16 0)=some (.inr (wl c)):=by
 have h:=for_fold (l:=c.Edges) (L:=F57v1L1 k c) (β:=Int) (σ:=List Int) (fun i s=>((i:Int),s)) (fun s=>s) (fun i x (w:List Int)=>(w.set (0+i*2) (want c x).1).set (0+i*2+1) (want c x).2) (fun _ s=>s.length=16) (fun i s _ hs=>by simp [hs])
  (fun n i s hi hs=>by
   have hm:=hv.edges
   rw [F57v1L1,if_pos (by simp;omega),idx_nat hi,Option.bind_some,e57L2 hk hv (mem_get hi),Option.bind_some]
   simp only [outK]
   rw [need_true (by omega),Option.bind_some,Int.toNat_natCast,List.getElem?_eq_getElem (by omega),Option.bind_some,List.getElem?_eq_getElem (by omega),Option.bind_some,w64_id (by omega) (by omega)]
   rfl)
  (fun n s _=>by rw [F57v1L1,if_neg (by simp)]) k (List.replicate 16 0) (by simp) (by have:=hv.edges;omega)
 exact h

abbrev look0 (c:Cs):Int×Int×(List Sh)×(List Eg)×(List Int)×(List ((List Int)×Int)):=(0,c.Tol,c.Sheets,c.Edges,wl c,[])
theorem e57_err {k:Nat} {c:Cs} (hk:17≤k) (h:(chk c).2.2≠0):F57v1 k c=some (.inr (chk c).2.2):=by
 unfold F57v1
 rw [e16 (by omega),Option.bind_some,if_pos (by simpa using h)]
theorem e57 {k:Nat} {c:Cs} (hk:17≤k) (h:(chk c).2.2=0):F57v1 k c=some (.inl (look0 c)):=by
 unfold F57v1
 rw [e16 (by omega),Option.bind_some,if_neg (by simpa using h),e57L1 (by omega) (chk_val (chk_err h)),Option.bind_some]
 rfl


def wantsE (c:Cs) (i:Int):S_api_Span×Int :=
 if (chk c).2.2 != 0 then (⟨0,0⟩,(chk c).2.2) else if okN 0 ((c.Edges.length:Int)-1) i then (if lo c i.toNat≤hi c i.toNat then (⟨lo c i.toNat,hi c i.toNat⟩,0) else (⟨0,0⟩,9)) else (⟨0,0⟩,4)
theorem e18 {k:Nat} (hk:17≤k) (c:Cs) (i:Int) (hl:c.Edges.length≤9223372036854775807):F18 k c i=some (wantsE c i):=by
 unfold F18 wantsE
 by_cases h:(chk c).2.2=0
 ·have hv:=chk_val (chk_err h)
  rw [e57 hk h,Option.bind_some,if_neg (by simpa using h)]
  simp only [outK]
  rw [if_neg (by simp),w64_id (by omega) (by omega),e48_1 (by omega),Option.bind_some]
  cases hok:okN 0 ((c.Edges.length:Int)-1) i with
  | false=>rfl
  | true =>
   have hr:=okN_iff.1 hok
   have hw:=(wl_inv hv.edges).2 i.toNat (by omega)
   simp only [Bool.not_true,Bool.false_eq_true,if_false,if_true]
   have hm:=hv.edges
   rw [need_true (by omega),Option.bind_some,hw.1,Option.bind_some,Option.bind_some,hw.2,Option.bind_some]
   by_cases hd:lo c i.toNat>hi c i.toNat
   ·rw [if_pos (by simpa using hd),if_neg (by omega)]
   ·rw [if_neg (by simpa using hd),if_pos (by omega)];rfl
 ·rw [e57_err hk h,Option.bind_some,if_pos (by simpa using h)]
  simp only [outK]
  rw [if_pos (by simpa using h)]
end Go.Proofs.Ytallnifoeahpiaa
namespace Go.Proofs.Ytallnifoeahpiaa
open Go Go.Sx
set_option linter.all false

theorem e58 {k:Nat} {c:Cs} (hk:10≤k) (hv:Val c) {x:Eg} (hx:x∈c.Edges):F58 k c x=some (⟨(want c x).1,(want c x).2⟩,decide ((want c x).1≤(want c x).2)):=by
 have he:=hv.eg x hx
 have ht:=hv.tol
 obtain ⟨p,ps,hps⟩:∃p ps,x.Points=p::ps:=by
  cases hpp:x.Points with
  | nil=>rw [hpp] at he;simp at he
  | cons p l=>exact ⟨p,l,rfl⟩
 have hp:=he.2.2.2.2.2.2.2 p (by rw [hps];simp)
 have hlen:ps.length≤3:=by have:=he.2.2.2.2.2.2.1;rw [hps] at this;simp at this;omega
 have h0:idx x.Points 0=some p:=by rw [hps];rfl
 have hpt:∀i,i<ps.length→0≤ps[i]!.A∧ps[i]!.A≤9000∧0≤ps[i]!.B∧ps[i]!.B≤9000:=fun i hi=>he.2.2.2.2.2.2.2 _ (by rw [hps];exact List.mem_cons_of_mem _ (mem_get hi))
 have hget:∀i,i<ps.length→idx x.Points ((i:Int)+1)=some ps[i]! := by
  intro i hi
  rw [hps,show (i:Int)+1=((i+1:Nat):Int) by simp,idx_nat (by simp;omega)]
  simp only [getElem!_pos (p::ps) (i+1) (by simp;omega),getElem!_pos ps i hi]
  rfl
 have hL:x.Points.length=ps.length+1:=by rw [hps];simp
 have h:=for_fold (l:=ps) (L:=F58L1 c x) (β:=S_api_Span×Bool) (σ:=Int×Int) (fun i s=>((i:Int)+1,s.1,s.2)) (fun s=>s) (fun _ p s=>wstep c.Tol s p) (fun _ _=>True) (fun _ _ _ _=>trivial)
  (fun n i s hi _=>by
   have hp:=hpt i hi
   rw [F58L1]
   dsimp only
   rw [if_pos (by simp;omega),hget i hi,Option.bind_some,Option.bind_some,w64_id (n:=ps[i]!.B-ps[i]!.A) (by omega) (by omega),w64_id (n:=ps[i]!.B-ps[i]!.A-c.Tol) (by omega) (by omega),w64_id (n:=ps[i]!.B-ps[i]!.A+c.Tol) (by omega) (by omega),w64_id (by omega) (by omega)]
   rfl)
  (fun n s _=>by rw [F58L1,if_neg (by simp;omega)]) k (p.B-p.A-c.Tol,p.B-p.A+c.Tol) trivial (by omega)
 unfold F58
 rw [h0]
 simp only [Option.bind_some]
 rw [w64_id (n:=p.B-p.A) (by omega) (by omega),w64_id (n:=p.B-p.A-c.Tol) (by omega) (by omega),w64_id (n:=p.B-p.A+c.Tol) (by omega) (by omega)]
 have h':F58L1 c x k (1,p.B-p.A-c.Tol,p.B-p.A+c.Tol)=_:=h
 rw [h',Option.bind_some,foldI_const]
 have hw:List.foldl (fun s p=>wstep c.Tol s p) (p.B-p.A-c.Tol,p.B-p.A+c.Tol) ps=want c x:=by
  unfold want
  rw [hps,List.foldl_cons]
  congr 1
  simp only [wstep]
  rw [if_pos (by omega),if_pos (by omega)]
 rw [hw]
 rfl
theorem e19 {k:Nat} (hk:17≤k) (c:Cs) (i:Int) (hl:c.Edges.length≤9223372036854775807):F19 k c i=some (wantsE c i):=by
 unfold F19 wantsE
 rw [e17 hk,Option.bind_some,w64_id (by omega) (by omega),e54]
 by_cases h:(chk c).2.2=0
 ·have hv:=chk_val (chk_err h)
  have hb:((chk c).2.2==0)=true:=by simpa using h
  rw [hb,optG_true,Option.bind_some,if_neg (show ¬((chk c).2.2 != 0)=true by simpa using h)]
  cases hok:okN 0 ((c.Edges.length:Int)-1) i with
  | false=>rfl
  | true =>
   have hr:=okN_iff.1 hok
   have hm:=hv.edges
   simp only [Bool.not_true,cond_true,Bool.false_eq_true,if_false,Option.bind_some,outK,if_true]
   rw [if_neg (by simpa using h),idx_bang (by omega) (by omega),Option.bind_some,e58 (by omega) hv (mem_get (by omega)),Option.bind_some]
   by_cases hd:lo c i.toNat≤hi c i.toNat
   ·rw [show decide ((want c c.Edges[i.toNat]!).1≤(want c c.Edges[i.toNat]!).2)=true from decide_eq_true hd,if_pos hd];rfl
   ·rw [show decide ((want c c.Edges[i.toNat]!).1≤(want c c.Edges[i.toNat]!).2)=false from decide_eq_false hd,if_neg hd];rfl
 ·have hb:((chk c).2.2==0)=false:=by simpa using h
  rw [hb,optG_false,Option.bind_some]
  simp only [cond_false,Bool.false_eq_true,if_false,Option.bind_some,outK]
  rw [if_pos (by simpa using h),if_pos (by simpa using h)]



def inR (c:Cs) (l:List Int):Prop:=l.length=c.Sheets.length∧∀i,i<c.Sheets.length → -c.Sheets[i]!.Most≤l[i]! ∧ l[i]! ≤ c.Sheets[i]!.Most
def okC (c:Cs) (i:Nat) (x:Int):Bool:=okN (-c.Sheets[i]!.Most) c.Sheets[i]!.Most x

def offB (c:Cs) (l:List Int):Option Nat:=fstB (fun i => !okC c i l[i]!) (List.range c.Sheets.length) 0

def far (c:Cs):List Int→Nat→Bool
 | [],_=>false
 | x::l,i => !okC c i x||far c l (i+1)
theorem far_iff {c:Cs} {l:List Int} (hl:l.length=c.Sheets.length):far c l 0=false↔inR c l:=by
 have key:∀(suf pre:List Int),l=pre++suf→(far c suf pre.length=false↔∀i,pre.length≤i→i<l.length→okC c i l[i]! = true):=by
  intro suf
  induction suf with
  | nil=>intro pre h;rw [List.append_nil] at h;subst h;exact ⟨fun _ i h1 h2=>by omega,fun _=>rfl⟩
  | cons x suf ih =>
   intro pre h
   have hi:pre.length<l.length:=by rw [h];simp
   have hx:l[pre.length]! = x:=by rw [getElem!_pos l _ hi];simp [h]
   have h2:=ih (pre++[x]) (by simp [h])
   simp only [List.length_append,List.length_cons,List.length_nil,Nat.zero_add] at h2
   rw [far,Bool.or_eq_false_iff,h2]
   constructor
   ·rintro ⟨h3,h4⟩ i h5 h6
    rcases Nat.eq_or_lt_of_le h5 with rfl|h7
    ·rw [hx];simpa using h3
    ·exact h4 i h7 h6
   ·intro h3
    refine ⟨?_,fun i h5 h6=>h3 i (by omega) h6⟩
    have:=h3 pre.length (Nat.le_refl _) hi
    rw [hx] at this;simp [this]
 have:=key l [] rfl
 simp only [List.length_nil] at this
 rw [this]
 constructor
 ·intro h
  exact ⟨hl,fun i hi=>okN_iff.1 (h i (by omega) (by omega))⟩
 ·intro h i _ hi
  exact okN_iff.2 (h.2 i (by omega))

def chE (c:Cs) (l:List Int):Int:=if (chk c).2.2 != 0 then (chk c).2.2 else if l.length=c.Sheets.length then (if far c l 0 then 7 else 0) else 3
theorem chE_zero {c:Cs} {l:List Int}:chE c l=0↔(chk c).2.2=0∧inR c l:=by
 unfold chE
 split
 ·rename_i h;simp at h;simp [h]
 ·rename_i h
  simp at h
  split
  ·rename_i h2
   have:=far_iff h2
   cases hf:far c l 0 with
   | true=>rw [hf] at this;simp at this;simp [h,this]
   | false=>rw [hf] at this;simp at this;simp [h,this]
  ·rename_i h2
   simp [h,inR,h2]
theorem most_ok {c:Cs} (hv:Val c) {i:Nat} (hi:i<c.Sheets.length):0≤c.Sheets[i]!.Most∧c.Sheets[i]!.Most≤6∧0≤c.Sheets[i]!.Weight∧c.Sheets[i]!.Weight≤20:=by
 have:=hv.sh _ (mem_get hi)
 omega
theorem e61L1 {k:Nat} {c:Cs} (hk:17≤k) (hv:Val c) {l:List Int} (hl:l.length=c.Sheets.length):∀(suf pre:List Int) (n:Nat),l=pre++suf→suf.length<n→F61L1 c l n (0,(pre.length:Int))=some (.inr (if far c suf pre.length then 7 else 0)):=by
 have hs:=hv.sheets
 intro suf
 induction suf with
 | nil =>
  intro pre n h hn
  obtain ⟨n,rfl⟩:∃q,n=q+1:=⟨n-1,by simp at hn;omega⟩
  rw [List.append_nil] at h;subst h
  rw [F61L1,if_neg (by simp)];rfl
 | cons x suf ih =>
  intro pre n h hn
  obtain ⟨n,rfl⟩:∃q,n=q+1:=⟨n-1,by simp at hn;omega⟩
  have hi:pre.length<l.length:=by rw [h];simp
  have hx:l[pre.length]! = x:=by rw [getElem!_pos l _ hi];simp [h]
  have hm:=most_ok hv (i:=pre.length) (by omega)
  rw [F61L1]
  dsimp only
  rw [if_pos (by simp;omega),idx_nat hi,Option.bind_some,idx_nat (by omega),Option.bind_some,Option.bind_some,w64_id (n:=0-c.Sheets[pre.length]!.Most) (by omega) (by omega),e54,Option.bind_some,hx,w64_id (by omega) (by omega),far]
  have hz:okN (0-c.Sheets[pre.length]!.Most) c.Sheets[pre.length]!.Most x=okC c pre.length x:=by unfold okC;congr 1;omega
  rw [hz]
  cases hok:okC c pre.length x with
  | true =>
   simp only [Bool.not_true,Bool.false_eq_true,if_false,Bool.false_or]
   have:=ih (pre++[x]) n (by simp [h]) (by simp at hn;omega)
   simpa using this
  | false =>
   simp only [Bool.not_false,if_true,Bool.true_or]
   obtain ⟨n,rfl⟩:∃q,n=q+1:=⟨n-1,by simp at hn;omega⟩
   rw [F61L1,if_neg (by simp)]
theorem e61 {k:Nat} {c:Cs} (hk:17≤k) (l:List Int):F61 k c l=some (chE c l):=by
 unfold F61 chE
 rw [e17 hk,Option.bind_some]
 by_cases h:(chk c).2.2=0
 ·have hv:=chk_val (chk_err h)
  have hs:=hv.sheets
  have hb:((chk c).2.2==0)=true:=by simpa using h
  rw [hb,if_neg (show ¬((chk c).2.2 != 0)=true by simpa using h)]
  by_cases hl:l.length=c.Sheets.length
  ·rw [if_neg (by simp [hl]),if_pos hl,Option.bind_some]
   simp only [outK]
   rw [h]
   have:=e61L1 hk hv hl l [] k rfl (by omega)
   simp only [List.length_nil] at this
   rw [show ((0:Int),(0:Int))=(0,((0:Nat):Int)) from rfl,this,Option.bind_some]
  ·rw [if_pos (by simp;omega),if_neg hl,Option.bind_some]
   simp only [outK]
   obtain ⟨k,rfl⟩:∃q,k=q+1:=⟨k-1,by omega⟩
   rw [F61L1,if_neg (by simp),Option.bind_some]
 ·have hb:((chk c).2.2==0)=false:=by simpa using h
  rw [hb,if_pos (show ((chk c).2.2 != 0)=true by simpa using h),if_neg (by simp),Option.bind_some]
  simp only [outK]
  obtain ⟨k,rfl⟩:∃q,k=q+1:=⟨k-1,by omega⟩
  rw [F61L1,if_neg (by simp [h]),Option.bind_some]
end Go.Proofs.Ytallnifoeahpiaa
namespace Go.Proofs.Ytallnifoeahpiaa
open Go Go.Sx
set_option linter.all false


def absI (n:Int):Int:=if 0-n>n then 0-n else n
theorem absI_le {n m:Int}:absI n≤m ↔ -m≤n∧n≤m:=by unfold absI;split<;>omega
theorem absI_nonneg (n:Int):0≤absI n:=by unfold absI;split<;>omega
theorem e71 {n:Int} (h1 : -2^62≤n) (h2:n≤2^62):F71 n=some (absI n):=by
 unfold F71 absI
 rw [w64_id (n:=0-n) (by omega) (by omega)]

def agB (c:Cs) (l:List Int) (x:Eg):Bool:=okN (want c x).1 (want c x).2 (l[x.A.toNat]! - l[x.B.toNat]!)

def oddF (c:Cs) (l:List Int):Int:=match fstB (fun x => !agB c l x) c.Edges 0 with|some k=>(k:Int)|none => -1

def near (c:Cs) (l:List Int):Prop:=∀i,i<c.Sheets.length → -1000≤l[i]! ∧ l[i]! ≤ 1000
theorem near_inR {c:Cs} (hv:Val c) {l:List Int} (h:inR c l):near c l:=fun i hi=>by
 have:=h.2 i hi
 have:=most_ok hv hi
 omega

theorem e85 {k:Nat} {c:Cs} (hk:10≤k) (hv:Val c) {x:Eg} (hx:x∈c.Edges) {a b:Int} (ha : -1000≤a∧a≤1000) (hb : -1000≤b∧b≤1000):F85 k c x a b=some (okN (want c x).1 (want c x).2 (a-b)):=by
 have he:=hv.eg x hx
 have ht:=hv.tol
 have hpt:∀i,i<x.Points.length→0≤x.Points[i]!.A∧x.Points[i]!.A≤9000∧0≤x.Points[i]!.B∧x.Points[i]!.B≤9000:=fun i hi=>he.2.2.2.2.2.2.2 _ (mem_get hi)
 have h:=for_loop (l:=x.Points) (L:=F85L1 c x a b) (β:=Bool) (γ:=Unit) (σ:=Unit) (fun i _=>(i:Int)) (fun s=>s) (fun i p _=>if absI (p.A+a-p.B-b)>c.Tol then .inl false else .inr ()) (fun _ _=>True) (fun _ _ _ _ _ _=>trivial)
  (fun n i s hi _=>by
   have hp:=hpt i hi
   rw [F85L1,if_pos (by simp;omega),idx_nat hi,Option.bind_some,Option.bind_some,w64_id (n:=x.Points[i]!.A+a) (by omega) (by omega),w64_id (n:=x.Points[i]!.A+a-x.Points[i]!.B) (by omega) (by omega),w64_id (n:=x.Points[i]!.A+a-x.Points[i]!.B-b) (by omega) (by omega),e71 (by omega) (by omega),Option.bind_some]
   by_cases hg:absI (x.Points[i]!.A+a-x.Points[i]!.B-b)>c.Tol
   ·rw [if_pos (decide_eq_true hg),if_pos hg]
   ·rw [if_neg (by rw [decide_eq_false hg];simp),if_neg hg,w64_id (by omega) (by omega)];rfl)
  (fun n s _=>by rw [F85L1,if_neg (by simp)]) k () trivial (by omega)
 have hr:∀(l:List Pt) (i:Nat),runE (β:=Bool) (fun i (p:Pt) (_:Unit)=>if absI (p.A+a-p.B-b)>c.Tol then .inl false else .inr ()) l i ()=if l.all (fun p=>decide (absI (p.A+a-p.B-b)≤c.Tol)) then .inr () else .inl false:=by
  intro l
  induction l with
  | nil=>intro i;rfl
  | cons p l ih =>
   intro i
   rw [runE,List.all_cons]
   by_cases hg:absI (p.A+a-p.B-b)>c.Tol
   ·rw [if_pos hg,decide_eq_false (by omega)];rfl
   ·rw [if_neg hg,decide_eq_true (by omega),Bool.true_and];exact ih (i+1)
 unfold F85
 rw [show (0:Int)=((0:Nat):Int) from rfl,h,Option.bind_some,hr]
 have hall:x.Points.all (fun p=>decide (absI (p.A+a-p.B-b)≤c.Tol))=okN (want c x).1 (want c x).2 (a-b):=by
  rw [Bool.eq_iff_iff,List.all_eq_true,okN_iff,want_iff hv hx]
  constructor
  ·intro h p hp
   have:=of_decide_eq_true (h p hp)
   rw [absI_le] at this
   omega
  ·intro h p hp
   refine decide_eq_true ?_
   have:=h p hp
   rw [absI_le]
   omega
 rw [hall]
 cases okN (want c x).1 (want c x).2 (a-b)<;>rfl
theorem ends {c:Cs} (hv:Val c) {i:Nat} (hi:i<c.Edges.length):(0≤c.Edges[i]!.A∧c.Edges[i]!.A<c.Sheets.length)∧0≤c.Edges[i]!.B∧c.Edges[i]!.B<c.Sheets.length:=by
 have:=hv.eg _ (mem_get hi)
 exact ⟨⟨this.1,this.2.1⟩,this.2.2.1,this.2.2.2.1⟩
theorem odd_end {f:Option Nat}:some (match f with|some k=>(k:Int)|none => -1)=some (match f with|some k=>(k:Int)|none => -1):=rfl
theorem e62 {k:Nat} {c:Cs} (hk:10≤k) (hv:Val c) {l:List Int} (hl:l.length=c.Sheets.length) (hn:near c l):F62 k c l=some (oddF c l):=by
 unfold F62 oddF
 have hm:=hv.edges
 obtain ⟨o,h1,h2⟩:=index_loop (l:=c.Edges) (L:=F62L1 k c l) (p:=fun x => !agB c l x) (by omega)
  (fun n i hi=>by
   have he:=ends hv hi
   rw [F62L1,if_pos (by simp;omega),idx_nat hi,Option.bind_some,idx_bang (by omega) (by omega),Option.bind_some,idx_bang (by omega) (by omega),Option.bind_some,e85 hk hv (mem_get hi) (hn _ (by omega)) (hn _ (by omega)),Option.bind_some]
   rfl)
  (fun n=>by rw [F62L1,if_neg (by simp)]) k (by omega)
 rw [h1,Option.bind_some,h2]
 cases fstB (fun x => !agB c l x) c.Edges 0<;>rfl

def agreesE (c:Cs) (l:List Int):Int×Int:=if chE c l != 0 then (0,chE c l) else (oddF c l,0)
theorem e21 {k:Nat} (hk:17≤k) (c:Cs) (l:List Int):F21 k c l=some (agreesE c l):=by
 unfold F21 agreesE
 rw [e61 hk,Option.bind_some]
 by_cases h:chE c l=0
 ·have h':=chE_zero.1 h
  have hv:=chk_val (chk_err h'.1)
  rw [if_neg (by simpa using h),if_neg (by simpa using h),e62 (by omega) hv h'.2.1 (near_inR hv h'.2)];rfl
 ·rw [if_pos (by simpa using h),if_pos (by simpa using h)]


def cost (c:Cs) (l:List Int):Int:=sumN c.Sheets.length fun i=>c.Sheets[i]!.Weight*absI l[i]!
theorem absI_near {n:Int} (h : -1000≤n∧n≤1000):0≤absI n∧absI n≤1000:=⟨absI_nonneg n,absI_le.2 h⟩
theorem mul_near {a b:Int} (ha:0≤a∧a≤20) (hb:0≤b∧b≤1000):0≤a*b∧a*b≤20000:=by
 refine ⟨Int.mul_nonneg ha.1 hb.1,?_⟩
 have:=Int.mul_le_mul ha.2 hb.2 hb.1 (by omega:(0:Int)≤20)
 omega
theorem e39 {k:Nat} {c:Cs} (hk:10≤k) (hv:Val c) {l:List Int} (hl:l.length=c.Sheets.length) (hn:near c l):F39 k c l=some (cost c l):=by
 have hs:=hv.sheets
 have hb:∀i,i<l.length→0≤c.Sheets[i]!.Weight*absI l[i]! ∧ c.Sheets[i]!.Weight*absI l[i]! ≤ 20000:=fun i hi=>by
  have:=most_ok hv (i:=i) (by omega)
  exact mul_near ⟨this.2.2.1,this.2.2.2⟩ (absI_near (hn i (by omega)))
 have h:=for_fold (l:=l) (L:=F39L1 c l) (β:=Int) (σ:=Int) (fun i s=>(s,(i:Int))) (fun s=>s) (fun i x s=>s+c.Sheets[i]!.Weight*absI x) (fun i s=>0≤s∧s≤i*20000)
  (fun i s hi hp=>by have:=hb i hi;constructor<;>omega)
  (fun n i s hi hp=>by
   have:=hb i hi
   have hz:=hn i (by omega)
   rw [F39L1]
   dsimp only
   rw [if_pos (by simp;omega),idx_nat (by omega),Option.bind_some,idx_nat hi,Option.bind_some,e71 (by omega) (by omega),Option.bind_some,w64_id (n:=c.Sheets[i]!.Weight*absI l[i]!) (by omega) (by omega),w64_id (n:=s+_) (by omega) (by omega),w64_id (by omega) (by omega)]
   rfl)
  (fun n s _=>by rw [F39L1,if_neg (by simp)]) k 0 ⟨by omega,by omega⟩ (by omega)
 unfold F39
 have h':F39L1 c l k (0,0)=_:=h
 rw [h',Option.bind_some,foldI_sum,hl];rfl

def costE (c:Cs) (l:List Int):Int×Int:=if chE c l != 0 then (0,chE c l) else (cost c l,0)
theorem e23 {k:Nat} (hk:17≤k) (c:Cs) (l:List Int):F23 k c l=some (costE c l):=by
 unfold F23 costE
 rw [e61 hk,Option.bind_some]
 by_cases h:chE c l=0
 ·have h':=chE_zero.1 h
  have hv:=chk_val (chk_err h'.1)
  rw [if_neg (by simpa using h),if_neg (by simpa using h),e39 (by omega) hv h'.2.1 (near_inR hv h'.2)];rfl
 ·rw [if_pos (by simpa using h),if_pos (by simpa using h)]


theorem get_some {α:Type} [Inhabited α] {l:List α} {i:Nat} (h:i<l.length):l[i]? = some l[i]! := by rw [getElem!_pos l i h,List.getElem?_eq_getElem h]
theorem cutN5 {x:List Int} (h:x.length=5):cutN x 0 5=some x:=by
 unfold cutN
 rw [if_pos (by omega),List.drop_zero,List.take_of_length_le (by omega)]
theorem e60 {k:Nat} {c:Cs} (hk:10≤k) (hv:Val c) {x:List Int} (hx:x.length=5) (hn:near c x) (t:Int) (m:List (List Int×Int)):F60 k x t c.Sheets c.Edges (wl c) m=some (oddF c x):=by
 unfold F60 oddF
 have hm:=hv.edges
 have hs:=hv.sheets
 obtain ⟨o,h1,h2⟩:=index_loop (l:=c.Edges) (L:=F60L1 k x c.Edges (wl c)) (p:=fun y => !agB c x y) (by omega)
  (fun n i hi=>by
   have he:=ends hv hi
   have hw:=(wl_inv hv.edges).2 i hi
   have ha:=hn c.Edges[i]!.A.toNat (by omega)
   have hb:=hn c.Edges[i]!.B.toNat (by omega)
   rw [F60L1,if_pos (by simp;omega),idx_nat hi,Option.bind_some,need_true (by omega),Option.bind_some,Int.toNat_natCast,hw.1,Option.bind_some,Option.bind_some,hw.2,Option.bind_some,need_true (by omega),Option.bind_some,
    Nat.zero_add,Nat.mul_one,get_some (by omega),Option.bind_some,need_true (by omega),Option.bind_some,Nat.zero_add,Nat.mul_one,get_some (by omega),Option.bind_some,w64_id (n:=x[c.Edges[i]!.A.toNat]! - x[c.Edges[i]!.B.toNat]!) (by omega) (by omega),e48_1 (by omega),Option.bind_some]
   rfl)
  (fun n=>by rw [F60L1,if_neg (by simp)]) k (by omega)
 rw [h1,Option.bind_some,h2]
 cases fstB (fun y => !agB c x y) c.Edges 0<;>rfl

def KeptOk (c:Cs) (m:List (List Int×Int)):Prop:=∀q∈m,q.1.length=5∧q.2=cost c q.1
theorem mget_kept {c:Cs} {x:List Int} {n:Int}:∀{m:List (List Int×Int)},KeptOk c m→mget eqk101 x m=some n→n=cost c x:=by
 intro m
 induction m with
 | nil=>intro _ h;simp [mget] at h
 | cons q m ih =>
  intro hm h
  rw [mget] at h
  split at h
  ·rename_i he
   have he':x=q.1:=eq_of_beq he
   have:=(hm q (by simp)).2
   simp at h
   rw [←h,this,he']
  ·exact ih (fun y hy=>hm y (List.mem_cons_of_mem _ hy)) h
theorem mset_kept {c:Cs} {x:List Int} (hx:x.length=5):∀{m:List (List Int×Int)},KeptOk c m→KeptOk c (mset eqk101 x (cost c x) m):=by
 intro m
 induction m with
 | nil=>intro _ q hq;simp [mset] at hq;subst hq;exact ⟨hx,rfl⟩
 | cons q m ih =>
  intro hm y hy
  rw [mset] at hy
  split at hy
  ·rcases List.mem_cons.1 hy with rfl|hy
   ·exact ⟨hx,rfl⟩
   ·exact hm y (List.mem_cons_of_mem _ hy)
  ·rcases List.mem_cons.1 hy with rfl|hy
   ·exact hm y (by simp)
   ·exact ih (fun z hz=>hm z (List.mem_cons_of_mem _ hz)) y hy
theorem kept_all {c:Cs} {m:List (List Int×Int)} (h:KeptOk c m):(m.all fun q=>q.1.length==5)=true:=by
 rw [List.all_eq_true]
 intro q hq
 simpa using (h q hq).1
theorem e63 {k:Nat} {c:Cs} (hk:10≤k) (hv:Val c) {x:List Int} (hx:x.length=5) (hn:near c x) (t:Int) {m:List (List Int×Int)} (hm:KeptOk c m):∃m',F63 k x t c.Sheets c.Edges (wl c) m=some (cost c x,m')∧KeptOk c m':=by
 unfold F63
 have hs:=hv.sheets
 rw [need_true (wl_inv hv.edges).1,Option.bind_some,cutN5 hx,Option.bind_some,need_true hx,Option.bind_some,need_true (kept_all hm),Option.bind_some]
 cases hg:mget eqk101 x m with
 | some n =>
  have:=mget_kept hm hg
  subst this
  exact ⟨m,rfl,hm⟩
 | none =>
  have hb:∀i,i<c.Sheets.length→0≤c.Sheets[i]!.Weight*absI x[i]! ∧ c.Sheets[i]!.Weight*absI x[i]! ≤ 20000:=fun i hi=>by
   have:=most_ok hv hi
   exact mul_near ⟨this.2.2.1,this.2.2.2⟩ (absI_near (hn i hi))
  have h:=for_fold (l:=c.Sheets) (L:=F63L1 x c.Sheets) (β:=Int×List (List Int×Int)) (σ:=Int) (fun i s=>(s,(i:Int))) (fun s=>s) (fun i y s=>s+y.Weight*absI x[i]!) (fun i s=>0≤s∧s≤i*20000)
   (fun i s hi hp=>by have:=hb i hi;constructor<;>omega)
   (fun n i s hi hp=>by
    have:=hb i hi
    have hz:=hn i hi
    rw [F63L1]
    dsimp only
    rw [if_pos (by simp;omega),idx_nat hi,Option.bind_some,need_true (by omega),Option.bind_some,Int.toNat_natCast,Nat.zero_add,Nat.mul_one,get_some (by omega),Option.bind_some,Option.bind_some,Option.bind_some,w64_id (n:=0-x[i]!) (by omega) (by omega)]
    rw [show (if 0-x[i]! > x[i]! then 0-x[i]! else x[i]!)=absI x[i]! from rfl,w64_id (n:=c.Sheets[i]!.Weight*absI x[i]!) (by omega) (by omega),w64_id (n:=s+_) (by omega) (by omega),w64_id (by omega) (by omega)]
    rfl)
   (fun n s _=>by rw [F63L1,if_neg (by simp)]) k 0 ⟨by omega,by omega⟩ (by omega)
  have h':F63L1 x c.Sheets k (0,0)=_:=h
  rw [foldI_sum] at h'
  simp only [Option.isSome_none,Bool.not_false,if_true,Option.getD_none]
  rw [h',Option.bind_some]
  simp only [outK,Option.bind_some]
  refine ⟨mset eqk101 x (cost c x) m,?_,mset_kept hx hm⟩
  rw [need_true hx];rfl


def pad (l:List Int):List Int:=l++List.replicate (5-l.length) 0
theorem pad_len {l:List Int} (h:l.length≤5):(pad l).length=5:=by simp [pad];omega
theorem pad_get {l:List Int} {i:Nat} (h:i<l.length):(pad l)[i]! = l[i]! := by
 rw [getElem!_pos (pad l) i (by simp [pad];omega),getElem!_pos l i h]
 exact List.getElem_append_left h
theorem oddF_pad {c:Cs} (hv:Val c) {l:List Int} (hl:l.length=c.Sheets.length):oddF c (pad l)=oddF c l:=by
 unfold oddF
 have:∀(es:List Eg) (j:Nat),(∀x∈es,x∈c.Edges)→fstB (fun x => !agB c (pad l) x) es j=fstB (fun x => !agB c l x) es j:=by
  intro es
  induction es with
  | nil=>intro j _;rfl
  | cons x es ih =>
   intro j h
   have he:=hv.eg x (h x (by simp))
   rw [fstB,fstB,ih (j+1) (fun y hy=>h y (List.mem_cons_of_mem _ hy))]
   have:agB c (pad l) x=agB c l x:=by
    unfold agB
    rw [pad_get (by omega),pad_get (by omega)]
   rw [this]
 rw [this c.Edges 0 (fun x hx=>hx)]
theorem cost_pad {c:Cs} {l:List Int} (hl:l.length=c.Sheets.length):cost c (pad l)=cost c l:=sumN_congr fun i hi=>by rw [pad_get (by omega)]

theorem e59L1 {k:Nat} {c:Cs} (hk:17≤k) (hv:Val c) {l:List Int} (hl:l.length=c.Sheets.length):∀(suf pre:List Int) (n:Nat),l=pre++suf→suf.length<n →
 (far c suf pre.length=false∧F59v1L1 k c l n ((pre.length:Int),pre++List.replicate (5-pre.length) 0)=some (.inr (pad l))) ∨
 (far c suf pre.length=true∧∃y:List Int,y.length=5∧F59v1L1 k c l n ((pre.length:Int),pre++List.replicate (5-pre.length) 0)=some (.inl (y,7))):=by
 have hs:=hv.sheets
 intro suf
 induction suf with
 | nil =>
  intro pre n h hn
  obtain ⟨n,rfl⟩:∃q,n=q+1:=⟨n-1,by simp at hn;omega⟩
  rw [List.append_nil] at h;subst h
  refine .inl ⟨rfl,?_⟩
  rw [F59v1L1,if_neg (by simp)];rfl
 | cons x suf ih =>
  intro pre n h hn
  obtain ⟨n,rfl⟩:∃q,n=q+1:=⟨n-1,by simp at hn;omega⟩
  have hi:pre.length<l.length:=by rw [h];simp
  have hx:l[pre.length]! = x:=by rw [getElem!_pos l _ hi];simp [h]
  have hm:=most_ok hv (i:=pre.length) (by omega)
  have h5:(pre++List.replicate (5-pre.length) (0:Int)).length=5:=by simp;omega
  rw [F59v1L1]
  dsimp only
  rw [if_pos (by simp;omega),idx_nat hi,Option.bind_some,idx_nat (by omega),Option.bind_some,Option.bind_some,w64_id (n:=0-c.Sheets[pre.length]!.Most) (by omega) (by omega),e48_1 (by omega),Option.bind_some,hx,far]
  have hz:okN (0-c.Sheets[pre.length]!.Most) c.Sheets[pre.length]!.Most x=okC c pre.length x:=by unfold okC;congr 1;omega
  rw [hz]
  cases hok:okC c pre.length x with
  | true =>
   simp only [Bool.not_true,Bool.false_eq_true,if_false,Bool.false_or]
   rw [need_true (by omega),Option.bind_some,Int.toNat_natCast,Nat.zero_add,Nat.mul_one,get_some (by omega),Option.bind_some,w64_id (by omega) (by omega)]
   have hset:(pre++List.replicate (5-pre.length) (0:Int)).set pre.length x=(pre++[x])++List.replicate (5-(pre++[x]).length) 0:=by
    rw [List.set_append_right _ _ (Nat.le_refl _),Nat.sub_self]
    obtain ⟨m,hm⟩:∃m,5-pre.length=m+1:=⟨5-pre.length-1,by omega⟩
    rw [hm,List.replicate_succ,List.set_cons_zero]
    rw [show 5-(pre++[x]).length=m by simp;omega]
    simp
   rw [hset]
   have:=ih (pre++[x]) n (by simp [h]) (by simp at hn;omega)
   simpa using this
  | false =>
   simp only [Bool.not_false,if_true,Bool.true_or]
   refine .inr ⟨trivial,pre++List.replicate (5-pre.length) 0,h5,?_⟩
   rw [cutN5 h5,Option.bind_some,need_true h5,Option.bind_some,Option.bind_some]
theorem e59 {k:Nat} (hk:17≤k) (c:Cs) (l:List Int):(chE c l=0∧F59v1 k c l=some (.inl (pad l,look0 c)))∨(chE c l≠0∧∃y:List Int,y.length=5∧F59v1 k c l=some (.inr (y,chE c l))):=by
 have hcut:cutN (List.replicate 5 (0:Int)) 0 5=some (List.replicate 5 0):=rfl
 by_cases h:(chk c).2.2=0
 ·have hv:=chk_val (chk_err h)
  have hs:=hv.sheets
  by_cases hl:l.length=c.Sheets.length
  ·have hL:=e59L1 hk hv hl l [] k rfl (by omega)
   simp only [List.length_nil,List.nil_append,Nat.sub_zero] at hL
   rcases hL with ⟨hf,hL⟩|⟨hf,y,hy,hL⟩
   ·refine .inl ⟨chE_zero.2 ⟨h,(far_iff hl).1 hf⟩,?_⟩
    unfold F59v1
    rw [e57 hk h,Option.bind_some]
    simp only [outK]
    rw [if_neg (by simp),if_neg (by simp [hl])]
    rw [show ((0:Int),List.replicate 5 (0:Int))=(((0:Nat):Int),List.replicate 5 0) from rfl,hL,Option.bind_some]
    have hp:=pad_len (l:=l) (by omega)
    simp only [outK]
    rw [cutN5 hp,Option.bind_some,need_true hp,Option.bind_some,Option.bind_some,Option.bind_some]
   ·have hE:chE c l=7:=by unfold chE;rw [if_neg (by simpa using h),if_pos hl,hf];rfl
    refine .inr ⟨by omega,y,hy,?_⟩
    unfold F59v1
    rw [e57 hk h,Option.bind_some]
    simp only [outK]
    rw [if_neg (by simp),if_neg (by simp [hl])]
    rw [show ((0:Int),List.replicate 5 (0:Int))=(((0:Nat):Int),List.replicate 5 0) from rfl,hL,Option.bind_some]
    simp only [outK]
    rw [need_true hy,Option.bind_some,hE]
  ·have hE:chE c l=3:=by unfold chE;rw [if_neg (by simpa using h),if_neg hl]
   refine .inr ⟨by omega,List.replicate 5 0,by simp,?_⟩
   unfold F59v1
   rw [e57 hk h,Option.bind_some]
   simp only [outK]
   rw [if_neg (by simp),if_pos (by simp;omega),hcut,Option.bind_some,need_true (by simp),Option.bind_some,Option.bind_some,hE]
 ·have hE:chE c l=(chk c).2.2:=by unfold chE;rw [if_pos (by simpa using h)]
  refine .inr ⟨by omega,List.replicate 5 0,by simp,?_⟩
  unfold F59v1
  rw [e57_err hk h,Option.bind_some]
  simp only [outK]
  rw [if_pos (by simpa using h),hcut,Option.bind_some,need_true (by simp),Option.bind_some,Option.bind_some,hE]
theorem e20 {k:Nat} (hk:17≤k) (c:Cs) (l:List Int):F20 k c l=some (agreesE c l):=by
 unfold F20 agreesE
 rcases e59 hk c l with ⟨h,h1⟩|⟨h,y,hy,h1⟩
 ·have h':=chE_zero.1 h
  have hv:=chk_val (chk_err h'.1)
  have hs:=hv.sheets
  have hp:=pad_len (l:=l) (by have:=h'.2.1;omega)
  have hn:near c (pad l):=fun i hi=>by rw [pad_get (by have:=h'.2.1;omega)];exact near_inR hv h'.2 i hi
  rw [h1,Option.bind_some,if_neg (show ¬(chE c l != 0)=true by simpa using h)]
  simp only [outK]
  rw [need_true hp,Option.bind_some,if_neg (by simp),cutN5 hp,Option.bind_some,e60 (by omega) hv hp hn,Option.bind_some,oddF_pad hv h'.2.1]
 ·rw [h1,Option.bind_some,if_pos (show (chE c l != 0)=true by simpa using h)]
  simp only [outK]
  rw [need_true hy,Option.bind_some,if_pos (by simpa using h)]
theorem e22 {k:Nat} (hk:17≤k) (c:Cs) (l:List Int):F22 k c l=some (costE c l):=by
 unfold F22 costE
 rcases e59 hk c l with ⟨h,h1⟩|⟨h,y,hy,h1⟩
 ·have h':=chE_zero.1 h
  have hv:=chk_val (chk_err h'.1)
  have hs:=hv.sheets
  have hp:=pad_len (l:=l) (by have:=h'.2.1;omega)
  have hn:near c (pad l):=fun i hi=>by rw [pad_get (by have:=h'.2.1;omega)];exact near_inR hv h'.2 i hi
  obtain ⟨m,h2,_⟩:=e63 (k:=k) (by omega) hv hp hn c.Tol (m:=[]) (fun q hq=>by simp at hq)
  rw [h1,Option.bind_some,if_neg (show ¬(chE c l != 0)=true by simpa using h)]
  simp only [outK]
  rw [need_true hp,Option.bind_some,if_neg (by simp),cutN5 hp,Option.bind_some,h2,Option.bind_some,cost_pad h'.2.1]
 ·rw [h1,Option.bind_some,if_pos (show (chE c l != 0)=true by simpa using h)]
  simp only [outK]
  rw [need_true hy,Option.bind_some,if_pos (by simpa using h)]
end Go.Proofs.Ytallnifoeahpiaa
