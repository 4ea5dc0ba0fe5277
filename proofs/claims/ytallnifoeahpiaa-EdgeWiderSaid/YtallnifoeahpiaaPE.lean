/- What edges want; a case that is looked at; changes that are entered. -/
import Derived.Test.YtallnifoeahpiaaPD
import Derived.Test.YtallnifoeahpiaaDEC
import Derived.Test.YtallnifoeahpiaaDRB
namespace Go.Proofs.Ytallnifoeahpiaa
open Go Go.Sx
set_option linter.all false


def sumN:Nat→(Nat→Int)→Int
 | 0,_=>0
 | n+1,f=>sumN n f+f n
theorem sumN_congr {f g:Nat→Int}:∀{n:Nat},(∀i,i<n→f i=g i)→sumN n f=sumN n g:=by
 intro n
 induction n with
 | zero=>intro _;rfl
 | succ n ih=>intro h;rw [sumN,sumN,ih (fun i hi=>h i (by omega)),h n (by omega)]
theorem foldI_sum {α:Type} [Inhabited α] (g:Nat→α→Int) (l:List α):foldI (fun i x n=>n+g i x) l 0 0=sumN l.length (fun i=>g i l[i]!):=by
 have h:=foldI_inv (l:=l) (fun i x n=>n+g i x) (fun j n=>n=sumN j (fun i=>g i l[i]!)) (fun i s hi hp=>by rw [hp];rfl) 0 rfl
 exact h
theorem sumN_bound {f:Nat→Int} {b:Int} (hb:0≤b):∀{n:Nat},(∀i,i<n→0≤f i∧f i≤b)→0≤sumN n f∧sumN n f≤n*b:=by
 intro n
 induction n with
 | zero=>intro _;simp [sumN]
 | succ n ih =>
  intro h
  have h1:=ih (fun i hi=>h i (by omega))
  have h2:=h n (by omega)
  have e:((n+1:Nat):Int)*b=n*b+b:=by rw [Int.natCast_add,Int.add_mul];simp
  rw [sumN,e]
  omega


def wstep (t:Int) (w:Int×Int) (p:Pt):Int×Int:=(if p.B-p.A-t>w.1 then p.B-p.A-t else w.1,if p.B-p.A+t<w.2 then p.B-p.A+t else w.2)

def want (c:Cs) (x:Eg):Int×Int:=x.Points.foldl (wstep c.Tol) (-18000,18000)
theorem wfold_iff {t:Int}:∀(l:List Pt) (w:Int×Int) (d:Int),((l.foldl (wstep t) w).1≤d∧d≤(l.foldl (wstep t) w).2)↔(w.1≤d∧d≤w.2∧∀p∈l,p.B-p.A-t≤d∧d≤p.B-p.A+t):=by
 intro l
 induction l with
 | nil=>intro w d;simp
 | cons p l ih =>
  intro w d
  rw [List.foldl_cons,ih]
  simp only [wstep,List.mem_cons,forall_eq_or_imp]
  constructor
  ·rintro ⟨h1,h2,h3⟩
   split at h1<;>split at h2<;>exact ⟨by omega,by omega,⟨by omega,by omega⟩,h3⟩
  ·rintro ⟨h1,h2,h3,h4⟩
   refine ⟨?_,?_,h4⟩<;>split<;>omega
theorem wfold_bound {t:Int} (ht:0≤t∧t≤50):∀(l:List Pt),(∀p∈l,0≤p.A∧p.A≤9000∧0≤p.B∧p.B≤9000)→∀(w:Int×Int),(-18000≤w.1∧w.1≤9000)∧(-9000≤w.2∧w.2≤18000) →
 (-18000≤(l.foldl (wstep t) w).1∧(l.foldl (wstep t) w).1≤9000)∧(-9000≤(l.foldl (wstep t) w).2∧(l.foldl (wstep t) w).2≤18000):=by
 intro l
 induction l with
 | nil=>intro _ w hw;exact hw
 | cons p l ih =>
  intro hl w hw
  rw [List.foldl_cons]
  have hp:=hl p (by simp)
  refine ih (fun q hq=>hl q (List.mem_cons_of_mem _ hq)) _ ?_
  simp only [wstep]
  refine ⟨?_,?_⟩<;>split<;>omega
theorem want_bound {c:Cs} (hv:Val c) {x:Eg} (hx:x∈c.Edges) : -18000≤(want c x).1∧(want c x).1≤9000 ∧ -9000≤(want c x).2∧(want c x).2≤18000:=by
 have:=wfold_bound hv.tol x.Points (hv.eg x hx).2.2.2.2.2.2.2 (-18000,18000) ⟨⟨by decide,by decide⟩,by decide,by decide⟩
 exact ⟨this.1.1,this.1.2,this.2.1,this.2.2⟩
theorem want_iff {c:Cs} (hv:Val c) {x:Eg} (hx:x∈c.Edges) (d:Int):((want c x).1≤d∧d≤(want c x).2)↔∀p∈x.Points,p.B-p.A-c.Tol≤d∧d≤p.B-p.A+c.Tol:=by
 unfold want
 rw [wfold_iff]
 refine ⟨fun h=>h.2.2,fun h=>⟨?_,?_,h⟩⟩
 all_goals
  have he:=hv.eg x hx
  have ht:=hv.tol
  obtain ⟨p,hp⟩:∃p,p∈x.Points:=by
   cases hpp:x.Points with
   | nil=>rw [hpp] at he;simp at he
   | cons p l=>exact ⟨p,by simp⟩
  have h1:=h p hp
  have h2:=he.2.2.2.2.2.2.2 p hp
  simp only
  omega


def lo (c:Cs) (i:Nat):Int:=(want c c.Edges[i]!).1
def hi (c:Cs) (i:Nat):Int:=(want c c.Edges[i]!).2

def wl (c:Cs):List Int:=foldI (fun i x (w:List Int)=>(w.set (0+i*2) (want c x).1).set (0+i*2+1) (want c x).2) c.Edges 0 (List.replicate 16 0)
theorem mem_get {α:Type} [Inhabited α] {l:List α} {i:Nat} (h:i<l.length):l[i]! ∈ l:=by rw [getElem!_pos l i h];exact List.getElem_mem h
theorem wl_inv {c:Cs} (hv:c.Edges.length≤8):(wl c).length=16∧∀i,i<c.Edges.length→(wl c)[0+i*2]? = some (lo c i)∧(wl c)[0+i*2+1]? = some (hi c i):=by
 have h:=foldI_inv (l:=c.Edges) (fun i x (w:List Int)=>(w.set (0+i*2) (want c x).1).set (0+i*2+1) (want c x).2) (fun j w=>w.length=16∧∀i,i<j→w[0+i*2]? = some (lo c i)∧w[0+i*2+1]? = some (hi c i))
  (fun i w hi' hp=>by
   refine ⟨by simp [hp.1],fun q hq=>?_⟩
   rcases Nat.lt_succ_iff_lt_or_eq.1 hq with hlt|rfl
   ·have:=hp.2 q hlt
    rw [List.getElem?_set_ne (by omega),List.getElem?_set_ne (by omega),List.getElem?_set_ne (by omega),List.getElem?_set_ne (by omega)]
    exact this
   ·rw [List.getElem?_set_ne (by omega),List.getElem?_set_self (by rw [hp.1];omega),List.getElem?_set_self (by rw [List.length_set,hp.1];omega)]
    exact ⟨rfl,rfl⟩) (List.replicate 16 0) ⟨by simp,fun i hi'=>by omega⟩
 exact h
theorem foldI_const {α σ:Type} (g:σ→α→σ):∀(l:List α) (i:Nat) (s:σ),foldI (fun _ x s=>g s x) l i s=l.foldl g s:=by
 intro l
 induction l with
 | nil=>intro i s;rfl
 | cons x l ih=>intro i s;rw [foldI,List.foldl_cons];exact ih _ _

theorem e57L2 {k:Nat} {c:Cs} (hk:10≤k) (hv:Val c) {x:Eg} (hx:x∈c.Edges):F57v1L2 c x k (-18000,18000,0)=some (.inr (want c x)):=by
 have he:=hv.eg x hx
 have ht:=hv.tol
 have hpt:∀i,i<x.Points.length→0≤x.Points[i]!.A∧x.Points[i]!.A≤9000∧0≤x.Points[i]!.B∧x.Points[i]!.B≤9000:=fun i hi=>he.2.2.2.2.2.2.2 _ (mem_get hi)
 have h:=for_fold (l:=x.Points) (L:=F57v1L2 c x) (β:=Int) (σ:=Int×Int) (fun i s=>(s.1,s.2,(i:Int))) (fun s=>s) (fun _ p s=>wstep c.Tol s p) (fun _ _=>True) (fun _ _ _ _=>trivial)
  (fun n i s hi _=>by
   have hp:=hpt i hi
   rw [F57v1L2]
   dsimp only
   rw [if_pos (by simp;omega),idx_nat hi,Option.bind_some,w64_id (n:=x.Points[i]!.B-x.Points[i]!.A) (by omega) (by omega),w64_id (n:=x.Points[i]!.B-x.Points[i]!.A-c.Tol) (by omega) (by omega),w64_id (n:=x.Points[i]!.B-x.Points[i]!.A+c.Tol) (by omega) (by omega),w64_id (by omega) (by omega)]
   rfl)
  (fun n s _=>by rw [F57v1L2,if_neg (by simp)]) k (-18000,18000) trivial (by omega)
 rw [foldI_const] at h
 exact h
theorem e57L1 {k:Nat} {c:Cs} (hk:10≤k) (hv:Val c):F57v1L1 k c k (0,List.replicate 16 0)=some (.inr (wl c)):=by
 have h:=for_fold (l:=c.Edges) (L:=F57v1L1 k c) (β:=Int) (σ:=List Int) (fun i s=>((i:Int),s)) (fun s=>s) (fun i x (w:List Int)=>(w.set (0+i*2) (want c x).1).set (0+i*2+1) (want c x).2) (fun _ s=>s.length=16) (fun i s _ hs=>by simp [hs])
  (fun n i s hi hs=>by
   have hm:=hv.edges
   rw [F57v1L1,if_pos (by simp;omega),idx_nat hi,Option.bind_some,e57L2 hk hv (mem_get hi),Option.bind_some]
   simp only [outK]
   rw [need_true (by omega),Option.bind_some,Int.toNat_natCast,List.getElem?_eq_getElem (by omega),Option.bind_some,List.getElem?_eq_getElem (by omega),Option.bind_some,w64_id (by omega) (by omega)]
   rfl)
  (fun n s _=>by rw [F57v1L1,if_neg (by simp)]) k (List.replicate 16 0) (by simp) (by have:=hv.edges;omega)
 exact h

abbrev look0 (c:Cs):Int×Int×(List Sh)×(List Eg)×(List Int)×(List ((List Int)×Int)):=(0,c.Tol,c.Sheets,c.Edges,wl c,[])
theorem e57_err {k:Nat} {c:Cs} (hk:17≤k) (h:(chk c).2.2≠0):F57v1 k c=some (.inr (chk c).2.2):=by
 unfold F57v1
 rw [e16 (by omega),Option.bind_some,if_pos (by simpa using h)]
theorem e57 {k:Nat} {c:Cs} (hk:17≤k) (h:(chk c).2.2=0):F57v1 k c=some (.inl (look0 c)):=by
 unfold F57v1
 rw [e16 (by omega),Option.bind_some,if_neg (by simpa using h),e57L1 (by omega) (chk_val (chk_err h)),Option.bind_some]
 rfl


def wantsE (c:Cs) (i:Int):S_api_Span×Int :=
 if (chk c).2.2 != 0 then (⟨0,0⟩,(chk c).2.2) else if okN 0 ((c.Edges.length:Int)-1) i then (if lo c i.toNat≤hi c i.toNat then (⟨lo c i.toNat,hi c i.toNat⟩,0) else (⟨0,0⟩,9)) else (⟨0,0⟩,4)
theorem e18 {k:Nat} (hk:17≤k) (c:Cs) (i:Int) (hl:c.Edges.length≤9223372036854775807):F18 k c i=some (wantsE c i):=by
 unfold F18 wantsE
 by_cases h:(chk c).2.2=0
 ·have hv:=chk_val (chk_err h)
  rw [e57 hk h,Option.bind_some,if_neg (by simpa using h)]
  simp only [outK]
  rw [if_neg (by simp),w64_id (by omega) (by omega),e48_1 (by omega),Option.bind_some]
  cases hok:okN 0 ((c.Edges.length:Int)-1) i with
  | false=>rfl
  | true =>
   have hr:=okN_iff.1 hok
   have hw:=(wl_inv hv.edges).2 i.toNat (by omega)
   simp only [Bool.not_true,Bool.false_eq_true,if_false,if_true]
   have hm:=hv.edges
   rw [need_true (by omega),Option.bind_some,hw.1,Option.bind_some,Option.bind_some,hw.2,Option.bind_some]
   by_cases hd:lo c i.toNat>hi c i.toNat
   ·rw [if_pos (by simpa using hd),if_neg (by omega)]
   ·rw [if_neg (by simpa using hd),if_pos (by omega)];rfl
 ·rw [e57_err hk h,Option.bind_some,if_pos (by simpa using h)]
  simp only [outK]
  rw [if_pos (by simpa using h)]
end Go.Proofs.Ytallnifoeahpiaa
