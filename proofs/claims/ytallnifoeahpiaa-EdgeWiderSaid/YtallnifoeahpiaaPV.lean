/- How far sheets can be above one: what tight comes to. -/
import Derived.Test.YtallnifoeahpiaaPU
namespace Go.Proofs.Ytallnifoeahpiaa
open Go Go.Sx
set_option linter.all false


def Pot (ls:List Sp) (y:Int→Int):Prop:=∀x∈ls,y x.to_-y x.from_≤x.most

structure Cyc (ls:List Sp) (rl:List Sp) (b:Nat→Int):Prop where
 pos:1≤rl.length
 mem:∀j,j<rl.length→rl[j]! ∈ ls∧rl[j]!.to_=b j∧rl[j]!.from_=b (j+1)
 back:b rl.length=b 0
 inj:∀i j,i<j→j<rl.length→b i≠b j
 neg:sumN rl.length (fun j=>rl[j]!.most)<0
theorem sumN_le {f g:Nat→Int}:∀{n:Nat},(∀i,i<n→f i≤g i)→sumN n f≤sumN n g:=by
 intro n
 induction n with
 | zero=>intro _;exact Int.le_refl _
 | succ n ih=>intro h;have h1:=ih (fun i hi=>h i (by omega));have h2:=h n (by omega);rw [sumN,sumN];omega
theorem Cyc.none {ls rl:List Sp} {b:Nat→Int} (h:Cyc ls rl b) {y:Int→Int} (hy:Pot ls y):False:=by
 have h1:sumN rl.length (fun j=>y (b j)-y (b (j+1)))≤sumN rl.length (fun j=>rl[j]!.most):=sumN_le fun j hj=>by
  have h2:=h.mem j hj
  have:=hy _ h2.1
  rw [h2.2.1,h2.2.2] at this
  exact this
 have h3:∀n,sumN n (fun j=>y (b j)-y (b (j+1)))=y (b 0)-y (b n):=by
  intro n
  induction n with
  | zero=>simp [sumN]
  | succ n ih=>rw [sumN,ih];omega
 rw [h3,h.back] at h1
 have:=h.neg
 omega


structure Rep (n:Nat) (s:BS) (q:Int×List Int×List Sp):Prop where
 lst:q.1=s.last
 dl:q.2.1.length=n+1
 pl:q.2.2.length=n+1
 dv:∀v:Nat,v≤n→q.2.1[v]! = s.d v
 pv:∀v:Nat,v≤n→q.2.2[v]! = s.p v
def relaxL (s:Int×List Int×List Sp) (x:Sp):Int×List Int×List Sp :=
 if w64 (s.2.1[x.from_.toNat]! + x.most)<s.2.1[x.to_.toNat]! then (x.to_,s.2.1.set x.to_.toNat (w64 (s.2.1[x.from_.toNat]! + x.most)),s.2.2.set x.to_.toNat x) else s
structure Nodes (n:Nat) (ls:List Sp):Prop where
 frm:∀x∈ls,0≤x.from_∧x.from_≤n
 to:∀x∈ls,0≤x.to_∧x.to_≤n
 ne:∀x∈ls,x.from_≠x.to_
 bd:∀x∈ls,-18000≤x.most∧x.most≤18000
theorem nodes {c:Cs} (hv:Val c) (w:Int):Nodes c.Sheets.length (lsA c w):=by
 have key:∀x∈lsA c w,(0≤x.from_∧x.from_≤c.Sheets.length)∧(0≤x.to_∧x.to_≤c.Sheets.length)∧x.from_≠x.to_ ∧ -18000≤x.most∧x.most≤18000:=by
  intro x hx
  rcases ((mem_lsA hv).1 x).1 hx with ⟨i,h1,_,h2⟩|⟨i,h1,h2⟩
  ·have he:=hv.eg _ (mem_get h1)
   have hb:=want_bound hv (mem_get h1)
   rcases h2 with rfl|rfl
   ·simp only [stA,hi];refine ⟨⟨?_,?_⟩,⟨?_,?_⟩,?_,?_,?_⟩<;>omega
   ·simp only [stB,lo];refine ⟨⟨?_,?_⟩,⟨?_,?_⟩,?_,?_,?_⟩<;>omega
  ·have hm:=most_ok hv h1
   rcases h2 with rfl|rfl
   ·simp only [stU];refine ⟨⟨?_,?_⟩,⟨?_,?_⟩,?_,?_,?_⟩<;>omega
   ·simp only [stD];refine ⟨⟨?_,?_⟩,⟨?_,?_⟩,?_,?_,?_⟩<;>omega
 exact ⟨fun x hx=>(key x hx).1,fun x hx=>(key x hx).2.1,fun x hx=>(key x hx).2.2.1,fun x hx=>(key x hx).2.2.2⟩
def Bd (q:Int) (s:BS):Prop:=∀v,-(18000*q)≤s.d v∧s.d v≤1048576
theorem get_set {α:Type} [Inhabited α] {l:List α} {i j:Nat} {x:α} (hi:i<l.length) (hj:j<l.length):(l.set i x)[j]! = if i=j then x else l[j]! := by
 rw [getElem!_pos (l.set i x) j (by simpa using hj),List.getElem_set,getElem!_pos l j hj]
theorem Rep.rel {n:Nat} {ls:List Sp} (hn:Nodes n ls) {s:BS} {q:Int×List Int×List Sp} (h:Rep n s q) {b:Int} (hb:Bd b s) (hb0:0≤b∧b≤1000) (r:Nat) {x:Sp} (hx:x∈ls):Rep n (relax r s x) (relaxL q x)∧Bd (b+1) (relax r s x):=by
 have h1:=hn.frm x hx
 have h2:=hn.to x hx
 have h3:=hn.bd x hx
 have hbf:=hb x.from_
 have e1:q.2.1[x.from_.toNat]! = s.d x.from_:=by rw [h.dv _ (by omega)];congr 1;omega
 have e2:q.2.1[x.to_.toNat]! = s.d x.to_:=by rw [h.dv _ (by omega)];congr 1;omega
 unfold relaxL relax
 rw [e1,e2,w64_id (by omega) (by omega)]
 by_cases hc:s.d x.from_+x.most<s.d x.to_
 ·rw [if_pos hc,if_pos hc]
  have hbt:=hb x.to_
  have hd:=h.dl
  have hp:=h.pl
  refine ⟨⟨rfl,by simp [h.dl],by simp [h.pl],fun v hv=>?_,fun v hv=>?_⟩,fun v=>?_⟩
  ·simp only
   rw [get_set (by omega) (by omega)]
   by_cases e:x.to_.toNat=v
   ·have:(v:Int)=x.to_:=by omega
    rw [if_pos e,this,upd_self]
   ·rw [if_neg e,upd_ne (by omega),h.dv v hv]
  ·simp only
   rw [get_set (by omega) (by omega)]
   by_cases e:x.to_.toNat=v
   ·have:(v:Int)=x.to_:=by omega
    rw [if_pos e,this,upd_self]
   ·rw [if_neg e,upd_ne (by omega),h.pv v hv]
  ·simp only
   have:=hb v
   by_cases e:v=x.to_
   ·subst e;rw [upd_self];omega
   ·rw [upd_ne e];omega
 ·rw [if_neg hc,if_neg hc]
  exact ⟨h,fun v=>by have:=hb v;omega⟩
theorem Rep.fold {n:Nat} {ls:List Sp} (hn:Nodes n ls) (r:Nat):∀(suf:List Sp) (s:BS) (q:Int×List Int×List Sp) (b:Int),(∀x∈suf,x∈ls)→Rep n s q→Bd b s→0≤b→b+suf.length≤1000→Rep n (suf.foldl (relax r) s) (suf.foldl relaxL q)∧Bd (b+suf.length) (suf.foldl (relax r) s):=by
 intro suf
 induction suf with
 | nil=>intro s q b _ h1 h2 _ _;exact ⟨h1,by simpa using h2⟩
 | cons x suf ih =>
  intro s q b hs h1 h2 h3 h4
  simp only [List.length_cons] at h4
  have h5:=h1.rel hn h2 ⟨h3,by omega⟩ r (hs x (by simp))
  have h6:=ih (relax r s x) (relaxL q x) (b+1) (fun y hy=>hs y (List.mem_cons_of_mem _ hy)) h5.1 h5.2 (by omega) (by omega)
  rw [List.foldl_cons,List.foldl_cons]
  refine ⟨h6.1,?_⟩
  have:=h6.2
  rw [show b+1+(suf.length:Int)=b+((x::suf).length:Int) by simp only [List.length_cons];omega] at this
  exact this

def Wv (ls:List Sp) (n:Nat) (f:Int) (s:BS):Prop:=(∀y,Pot ls y→∀v:Int,0≤v→v≤n→y v-y f≤s.d v)∧s.d f≤0
theorem Wv.rel {n:Nat} {ls:List Sp} (hn:Nodes n ls) {f:Int} {s:BS} (h:Wv ls n f s) (r:Nat) {x:Sp} (hx:x∈ls):Wv ls n f (relax r s x):=by
 unfold relax
 by_cases hc:s.d x.from_+x.most<s.d x.to_
 ·rw [if_pos hc]
  have h1:=hn.frm x hx
  refine ⟨fun y hy v h0 h9=>?_,?_⟩
  ·simp only
   by_cases e:v=x.to_
   ·subst e
    rw [upd_self]
    have h2:=hy x hx
    have h3:=h.1 y hy x.from_ h1.1 h1.2
    omega
   ·rw [upd_ne e];exact h.1 y hy v h0 h9
  ·simp only
   have:=h.2
   by_cases e:f=x.to_
   ·rw [←e,upd_self];rw [←e] at hc;omega
   ·rw [upd_ne e];exact this
 ·rw [if_neg hc];exact h
theorem Wv.fold {n:Nat} {ls:List Sp} (hn:Nodes n ls) {f:Int} (r:Nat):∀(suf:List Sp) (s:BS),(∀x∈suf,x∈ls)→Wv ls n f s→Wv ls n f (suf.foldl (relax r) s):=by
 intro suf
 induction suf with
 | nil=>intro s _ h;exact h
 | cons x suf ih=>intro s hs h;exact ih _ (fun y hy=>hs y (List.mem_cons_of_mem _ hy)) (h.rel hn r (hs x (by simp)))

theorem e64L3 {k n:Nat} {ls:List Sp} (hn:Nodes n ls) (hl:ls.length≤26) (hk:40≤k) {q:Int×List Int×List Sp} (hd:q.2.1.length=n+1) (hp:q.2.2.length=n+1):F64L3 ls k (q.1,0,q.2.1,q.2.2)=some (.inr (ls.foldl relaxL q)):=by
 have h:=for_fold (l:=ls) (L:=F64L3 ls) (β:=List Int×List Sp) (σ:=Int×List Int×List Sp) (fun i s=>(s.1,(i:Int),s.2.1,s.2.2)) (fun s=>s) (fun _ x s=>relaxL s x) (fun _ s=>s.2.1.length=n+1∧s.2.2.length=n+1)
  (fun i s hi hp=>by unfold relaxL;split<;>simp [hp.1,hp.2])
  (fun m i s hi hq=>by
   have h1:=hn.frm _ (mem_get hi)
   have h2:=hn.to _ (mem_get hi)
   rw [F64L3]
   dsimp only
   rw [if_pos (by simp;omega),idx_nat hi,Option.bind_some,idx_bang (l:=s.2.1) (c:=ls[i]!.from_) (by omega) (by omega),Option.bind_some,idx_bang (l:=s.2.1) (c:=ls[i]!.to_) (by omega) (by omega),Option.bind_some,w64_id (n:=(i:Int)+1) (by omega) (by omega)]
   unfold relaxL
   by_cases hc:w64 (s.2.1[ls[i]!.from_.toNat]! + ls[i]!.most)<s.2.1[ls[i]!.to_.toNat]!
   ·rw [if_pos (decide_eq_true hc),if_pos hc,Option.bind_some,idx_bang (l:=s.2.2) (by omega) (by omega),Option.bind_some];rfl
   ·rw [if_neg (by rw [decide_eq_false hc];simp),if_neg hc];rfl)
  (fun m s _=>by rw [F64L3,if_neg (by simp)]) k q ⟨hd,hp⟩ (by omega)
 rw [foldI_const] at h
 exact h
theorem last_cases {n r:Nat} {ls:List Sp} (hn:Nodes n ls) {s:BS} (h:Rv ls r ls s):s.last = -1∨0≤s.last:=by
 rcases h.lst with ⟨h1,_⟩|⟨_,x,hx,h1⟩
 ·exact .inl h1
 ·have:=hn.to x hx;right;omega
theorem e64L2 {k n:Nat} {c:Cs} (hs:c.Sheets.length=n) (h5:n≤5) {ls:List Sp} (hn:Nodes n ls) (hl:ls.length≤26) (hk:40≤k) {f:Int}:∀(m r g:Nat) (s:BS) (q:Int×List Int×List Sp),m+r=n+2→m<g→Bv ls r s→Rep n s q→Bd (26*r) s→Wv ls n f s→(r=0∨(Rv ls r ls s∧s.last ≠ -1)) →
 ∃s' q',F64L2 k c.Sheets ls g (q.1,(r:Int),q.2.1,q.2.2)=some (.inr q')∧Rep n s' q'∧Wv ls n f s'∧((s'.last = -1∧∃r',Rv ls r' ls s')∨(0≤s'.last∧Rv ls (n+2) ls s')):=by
 intro m
 induction m with
 | zero =>
  intro r g s q hm hg hb hr _ hw ho
  obtain ⟨g,rfl⟩:∃x,g=x+1:=⟨g-1,by omega⟩
  rcases ho with h0|⟨hrv,hne⟩
  ·omega
  ·refine ⟨s,q,?_,hr,hw,.inr ⟨?_,?_⟩⟩
   ·rw [F64L2]
    dsimp only
    rw [w64_id (n:=(c.Sheets.length:Int)+1) (by omega) (by omega),w64_id (by omega) (by omega),if_neg (by simp;omega)]
   ·rcases last_cases hn hrv with h|h
    ·exact absurd h hne
    ·exact h
   ·rw [show n+2=r by omega];exact hrv
 | succ m ih =>
  intro r g s q hm hg hb hr hbd hw _
  obtain ⟨g,rfl⟩:∃x,g=x+1:=⟨g-1,by omega⟩
  have hr0:Rep n ⟨s.d,s.p,s.t,s.ts,s.clk,-1⟩ (-1,q.2.1,q.2.2):=⟨rfl,hr.dl,hr.pl,hr.dv,hr.pv⟩
  have hf:=Rep.fold hn (r+1) ls _ _ (26*r) (fun x hx=>hx) hr0 (fun v=>hbd v) (by omega) (by omega)
  have hrv:=hb.next hn.ne
  have hwn:Wv ls n f (rnd (r+1) ls s):=Wv.fold hn (r+1) ls _ (fun x hx=>hx) ⟨hw.1,hw.2⟩
  have e3:=e64L3 hn hl hk (q:=(-1,q.2.1,q.2.2)) hr.dl hr.pl
  have hrn:Rep n (rnd (r+1) ls s) (ls.foldl relaxL (-1,q.2.1,q.2.2)):=hf.1
  have hbn:Bd (26*((r+1:Nat):Int)) (rnd (r+1) ls s):=fun v=>by
   have:=hf.2 v
   have e:(rnd (r+1) ls s).d v=(List.foldl (relax (r+1)) ⟨s.d,s.p,s.t,s.ts,s.clk,-1⟩ ls).d v:=rfl
   rw [e]
   omega
  have hlast:=last_cases hn hrv
  have hlst:=hrn.lst
  rcases hlast with hl1|hl1
  ·refine ⟨rnd (r+1) ls s,ls.foldl relaxL (-1,q.2.1,q.2.2),?_,hrn,hwn,.inl ⟨hl1,r+1,hrv⟩⟩
   rw [F64L2]
   dsimp only
   rw [w64_id (n:=(c.Sheets.length:Int)+1) (by omega) (by omega),w64_id (n:=(c.Sheets.length:Int)+1+1) (by omega) (by omega),if_pos (by simp;omega),e3,Option.bind_some]
   simp only [outK]
   rw [if_pos (by simp;omega)]
  ·obtain ⟨s',q',h1,h2⟩:=ih (r+1) g (rnd (r+1) ls s) (ls.foldl relaxL (-1,q.2.1,q.2.2)) (by omega) (by omega) hrv.bv hrn hbn hwn (.inr ⟨hrv,by omega⟩)
   refine ⟨s',q',?_,h2⟩
   rw [F64L2]
   dsimp only
   rw [w64_id (n:=(c.Sheets.length:Int)+1) (by omega) (by omega),w64_id (n:=(c.Sheets.length:Int)+1+1) (by omega) (by omega),if_pos (by simp;omega),e3,Option.bind_some]
   simp only [outK]
   rw [if_neg (by simp;omega),w64_id (n:=(r:Int)+1) (by omega) (by omega)]
   exact h1
theorem e64L4 {n:Nat} {c:Cs} (hs:c.Sheets.length=n) (h5:n≤5) {s:BS} {q:Int×List Int×List Sp} (hr:Rep n s q):∀(m i g:Nat) (a:Int),m+i=n+1→m<g→(∀j,j≤m→0≤back s j a∧back s j a≤n)→F64L4 c.Sheets q g (a,(i:Int))=some (.inr (back s m a)):=by
 intro m
 induction m with
 | zero =>
  intro i g a hm hg _
  obtain ⟨g,rfl⟩:∃x,g=x+1:=⟨g-1,by omega⟩
  rw [F64L4]
  dsimp only
  rw [w64_id (n:=(c.Sheets.length:Int)+1) (by omega) (by omega),if_neg (by simp;omega)]
  rfl
 | succ m ih =>
  intro i g a hm hg hb
  obtain ⟨g,rfl⟩:∃x,g=x+1:=⟨g-1,by omega⟩
  have h0:=hb 0 (by omega)
  simp only [back] at h0
  have hp:=hr.pl
  have e:q.2.2[a.toNat]! = s.p a:=by rw [hr.pv _ (by omega)];congr 1;omega
  rw [F64L4]
  dsimp only
  rw [w64_id (n:=(c.Sheets.length:Int)+1) (by omega) (by omega),if_pos (by simp;omega),idx_bang (by omega) (by omega),Option.bind_some,e,w64_id (n:=(i:Int)+1) (by omega) (by omega)]
  exact ih (i+1) g (prev s a) (by omega) (by omega) (fun j hj=>hb (j+1) (by omega))
theorem e64L5 {n:Nat} {s:BS} {q:Int×List Int×List Sp} (hr:Rep n s q) {b:Int} {L:Nat} (hL:1≤L∧L≤100) (hb:∀j,j≤L→0≤back s j b∧back s j b≤n) (hc:back s L b=b) (hmin:∀j,1≤j→j<L→back s j b≠b):∀(m j g:Nat),m+j=L→m<g→F64L5 q b g (back s j b,(List.range j).map (fun i=>s.p (back s i b)))=some (.inr ((List.range L).map (fun i=>s.p (back s i b)))):=by
 intro m
 induction m with
 | zero =>
  intro j g hm hg
  obtain ⟨g,rfl⟩:∃x,g=x+1:=⟨g-1,by omega⟩
  have e:j=L:=by omega
  subst e
  rw [F64L5]
  dsimp only
  rw [hc,if_neg]
  have h1:(((List.map (fun i=>s.p (back s i b)) (List.range j)).length:Int)==0)=false:=by
   simp;omega
  rw [h1]
  simp
 | succ m ih =>
  intro j g hm hg
  obtain ⟨g,rfl⟩:∃x,g=x+1:=⟨g-1,by omega⟩
  have hj:=hb j (by omega)
  have hp:=hr.pl
  have e:q.2.2[(back s j b).toNat]! = s.p (back s j b):=by rw [hr.pv _ (by omega)];congr 1;omega
  rw [F64L5]
  dsimp only
  have hcond:(cond (((List.map (fun i=>s.p (back s i b)) (List.range j)).length:Int)==0) true (back s j b != b))=true:=by
   cases j with
   | zero=>rfl
   | succ j =>
    have:=hmin (j+1) (by omega) (by omega)
    rw [show (back s (j+1) b != b)=true by simpa using this]
    cases (((List.map (fun i=>s.p (back s i b)) (List.range (j+1))).length:Int)==0)<;>rfl
  rw [if_pos hcond,idx_bang (by omega) (by omega),Option.bind_some,need_true (by simp;omega),Option.bind_some,Option.bind_some,e]
  have h2:=ih (j+1) g (by omega) (by omega)
  rw [List.range_succ,List.map_append,back_succ] at h2
  exact h2
theorem wayN_sum (s:BS):∀(n:Nat) (v:Int),wayN s n v=sumN n (fun j=>(s.p (back s j v)).most):=by
 have h:∀(n:Nat) (v:Int),wayN s (n+1) v=wayN s n v+(s.p (back s n v)).most:=by
  intro n
  induction n with
  | zero=>intro v;simp [wayN,back]
  | succ n ih=>intro v;rw [wayN,ih,wayN,back];omega
 intro n
 induction n with
 | zero=>intro v;rfl
 | succ n ih=>intro v;rw [h,ih,sumN]

theorem least_from {P:Nat→Prop}:∀(L:Nat),1≤L→P L→∃m,1≤m∧m≤L∧P m∧∀j,1≤j→j<m→¬P j:=by
 intro L
 induction L using Nat.strongRecOn with
 | _ L ih =>
  intro h1 h2
  by_cases hx:∃j,1≤j∧j<L∧P j
  ·obtain ⟨j,a,b,d⟩:=hx
   obtain ⟨m,e1,e2,e3⟩:=ih j b a d
   exact ⟨m,e1,by omega,e3⟩
  ·exact ⟨L,h1,Nat.le_refl _,h2,fun j a b d=>hx ⟨j,a,b,d⟩⟩
end Go.Proofs.Ytallnifoeahpiaa
