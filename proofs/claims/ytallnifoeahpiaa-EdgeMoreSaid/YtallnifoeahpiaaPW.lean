/- All steps of a case, and how far sheets can be above one: what tight comes to. -/
import Derived.Test.YtallnifoeahpiaaPG
import Derived.Test.YtallnifoeahpiaaPT
import Derived.Test.YtallnifoeahpiaaDED
namespace Go.Proofs.Ytallnifoeahpiaa
open Go Go.Sx
set_option linter.all false


def keep (w:Int) (i:Nat):Bool:=(Go.bits .and .i64 (w / 2^min i 64) 1)==0
theorem keep0 (i:Nat):keep 0 i=true:=by
 unfold keep
 rw [Int.zero_ediv]
 rfl
def stA (c:Cs) (i:Nat):Sp:=⟨c.Edges[i]!.B,c.Edges[i]!.A,hi c i,i,-1⟩
def stB (c:Cs) (i:Nat):Sp:=⟨c.Edges[i]!.A,c.Edges[i]!.B,0-lo c i,i,1⟩
def stU (c:Cs) (i:Nat):Sp:=⟨c.Sheets.length,i,c.Sheets[i]!.Most,-1,0⟩
def stD (c:Cs) (i:Nat):Sp:=⟨i,c.Sheets.length,c.Sheets[i]!.Most,-1,0⟩
def lsE (c:Cs) (w:Int):List Sp:=foldI (fun i x (s:List Sp)=>if keep w i then s++[⟨x.B,x.A,(want c x).2,i,-1⟩,⟨x.A,x.B,w64 (0-(want c x).1),i,1⟩] else s) c.Edges 0 []
def lsA (c:Cs) (w:Int):List Sp:=foldI (fun i x (s:List Sp)=>s++[⟨c.Sheets.length,i,x.Most,-1,0⟩,⟨i,c.Sheets.length,x.Most,-1,0⟩]) c.Sheets 0 (lsE c w)
theorem mem_lsE {c:Cs} (hv:Val c) {w:Int}:(∀y,y∈lsE c w↔∃i,i<c.Edges.length∧keep w i=true∧(y=stA c i∨y=stB c i))∧(lsE c w).length≤2*c.Edges.length:=by
 unfold lsE
 refine foldI_inv (l:=c.Edges) _ (fun j (s:List Sp)=>(∀y,y∈s↔∃i,i<j∧keep w i=true∧(y=stA c i∨y=stB c i))∧s.length≤2*j) ?_ [] ⟨fun y=>⟨fun h=>by simp at h,fun ⟨i,h,_⟩=>by omega⟩,by simp⟩
 intro i s hi' hp
 have hb:=want_bound hv (mem_get hi')
 have hw:w64 (0-(want c c.Edges[i]!).1)=0-(want c c.Edges[i]!).1:=w64_id (by omega) (by omega)
 cases hk:keep w i with
 | true =>
  simp only [hk,if_true,List.length_append,List.length_cons,List.length_nil]
  refine ⟨fun y=>?_,by omega⟩
  rw [List.mem_append,hp.1,hw]
  constructor
  ·rintro (⟨q,h1,h2⟩|h)
   ·exact ⟨q,by omega,h2⟩
   ·simp only [List.mem_cons,List.not_mem_nil,or_false] at h
    exact ⟨i,by omega,hk,h⟩
  ·rintro ⟨q,h1,h2,h3⟩
   by_cases hq:q=i
   ·subst hq
    right
    simp only [List.mem_cons,List.not_mem_nil,or_false]
    exact h3
   ·exact .inl ⟨q,by omega,h2,h3⟩
 | false =>
  simp only [hk,Bool.false_eq_true,if_false]
  refine ⟨fun y=>?_,by omega⟩
  rw [hp.1]
  constructor
  ·rintro ⟨q,h1,h2⟩;exact ⟨q,by omega,h2⟩
  ·rintro ⟨q,h1,h2,h3⟩
   by_cases hq:q=i
   ·subst hq;rw [hk] at h2;simp at h2
   ·exact ⟨q,by omega,h2,h3⟩
theorem mem_lsA {c:Cs} (hv:Val c) {w:Int}:(∀y,y∈lsA c w↔(∃i,i<c.Edges.length∧keep w i=true∧(y=stA c i∨y=stB c i))∨∃i,i<c.Sheets.length∧(y=stU c i∨y=stD c i))∧(lsA c w).length≤26:=by
 have h:=foldI_inv (l:=c.Sheets) (fun i x (s:List Sp)=>s++[⟨c.Sheets.length,i,x.Most,-1,0⟩,⟨i,c.Sheets.length,x.Most,-1,0⟩]) (fun j (s:List Sp)=>(∀y,y∈s↔y∈lsE c w∨∃i,i<j∧(y=stU c i∨y=stD c i))∧s.length≤(lsE c w).length+2*j)
  (fun i s hi' hp=>by
   simp only [List.length_append,List.length_cons,List.length_nil]
   refine ⟨fun y=>?_,by omega⟩
   rw [List.mem_append,hp.1]
   constructor
   ·rintro ((h|⟨q,h1,h2⟩)|h)
    ·exact .inl h
    ·exact .inr ⟨q,by omega,h2⟩
    ·simp only [List.mem_cons,List.not_mem_nil,or_false] at h
     exact .inr ⟨i,by omega,h⟩
   ·rintro (h|⟨q,h1,h2⟩)
    ·exact .inl (.inl h)
    ·by_cases hq:q=i
     ·subst hq
      right
      simp only [List.mem_cons,List.not_mem_nil,or_false]
      exact h2
     ·exact .inl (.inr ⟨q,by omega,h2⟩)) (lsE c w) ⟨fun y=>⟨fun h => .inl h,fun h=>h.elim id fun ⟨i,h,_⟩=>by omega⟩,by omega⟩
 have h2:=mem_lsE hv (w:=w)
 have hs:=hv.sheets
 have he:=hv.edges
 refine ⟨fun y=>?_,?_⟩
 ·have:=h.1 y
  rw [h2.1] at this
  exact this
 ·have h3:(lsA c w).length≤(lsE c w).length+2*c.Sheets.length:=h.2
  omega

theorem e86 {k:Nat} {c:Cs} (hk:10≤k) (hv:Val c) {w:Int} (t:Int) (m:List (List Int×Int)):F86 k w t c.Sheets c.Edges (wl c) m=some (lsA c w):=by
 have hs:=hv.sheets
 have he:=hv.edges
 have h1:=for_fold (l:=c.Edges) (L:=F86L1 w c.Edges (wl c)) (β:=List Sp) (σ:=List Sp) (fun i s=>((i:Int),s)) (fun s=>s) (fun i x (s:List Sp)=>if keep w i then s++[⟨x.B,x.A,(want c x).2,i,-1⟩,⟨x.A,x.B,w64 (0-(want c x).1),i,1⟩] else s) (fun i s=>s.length≤2*i)
  (fun i s hi' hp=>by
   split
   ·simp;omega
   ·omega)
  (fun n i s hi' hp=>by
   have hw:=(wl_inv hv.edges).2 i hi'
   rw [F86L1]
   dsimp only
   rw [if_pos (by simp;omega),idx_nat hi',Option.bind_some,need_true (by omega),Option.bind_some,Int.toNat_natCast,show (Go.bits .and .i64 (w / 2^min i 64) 1==0)=keep w i from rfl]
   cases hk:keep w i with
   | true =>
    rw [if_pos rfl,need_true (by omega),Option.bind_some,hw.2,Option.bind_some,Option.bind_some,hw.1,Option.bind_some,need_true (by simp;omega),Option.bind_some,if_pos rfl,w64_id (n:=(i:Int)+1) (by omega) (by omega)]
    rfl
   | false =>
    rw [if_neg (by simp),if_neg (by simp),w64_id (n:=(i:Int)+1) (by omega) (by omega)]
    rfl)
  (fun n s _=>by rw [F86L1,if_neg (by simp)]) k [] (by simp) (by omega)
 have h2:=for_fold (l:=c.Sheets) (L:=F86L2 c.Sheets) (β:=List Sp) (σ:=List Sp) (fun i s=>((i:Int),s)) (fun s=>s) (fun i x (s:List Sp)=>s++[⟨c.Sheets.length,i,x.Most,-1,0⟩,⟨i,c.Sheets.length,x.Most,-1,0⟩]) (fun i s=>s.length≤16+2*i)
  (fun i s hi' hp=>by simp;omega)
  (fun n i s hi' hp=>by
   rw [F86L2]
   dsimp only
   rw [if_pos (by simp;omega),idx_nat hi',Option.bind_some,need_true (by simp;omega),Option.bind_some,w64_id (n:=(i:Int)+1) (by omega) (by omega)]
   rfl)
  (fun n s _=>by rw [F86L2,if_neg (by simp)]) k (lsE c w) (by have:=(mem_lsE hv (w:=w)).2;omega) (by omega)
 unfold F86
 rw [show ((0:Int),([]:List Sp))=(((0:Nat):Int),[]) from rfl,h1,Option.bind_some]
 simp only [outK]
 rw [show F86L2 c.Sheets k (0,foldI (fun i x (s:List Sp)=>if keep w i then s++[⟨x.B,x.A,(want c x).2,i,-1⟩,⟨x.A,x.B,w64 (0-(want c x).1),i,1⟩] else s) c.Edges 0 [])=F86L2 c.Sheets k (((0:Nat):Int),lsE c w) from rfl,h2,Option.bind_some]
 rfl
end Go.Proofs.Ytallnifoeahpiaa
namespace Go.Proofs.Ytallnifoeahpiaa
open Go Go.Sx
set_option linter.all false


def Pot (ls:List Sp) (y:Int→Int):Prop:=∀x∈ls,y x.to_-y x.from_≤x.most

structure Cyc (ls:List Sp) (rl:List Sp) (b:Nat→Int):Prop where
 pos:1≤rl.length
 mem:∀j,j<rl.length→rl[j]! ∈ ls∧rl[j]!.to_=b j∧rl[j]!.from_=b (j+1)
 back:b rl.length=b 0
 inj:∀i j,i<j→j<rl.length→b i≠b j
 neg:sumN rl.length (fun j=>rl[j]!.most)<0
 len:rl.length≤100
theorem sumN_le {f g:Nat→Int}:∀{n:Nat},(∀i,i<n→f i≤g i)→sumN n f≤sumN n g:=by
 intro n
 induction n with
 | zero=>intro _;exact Int.le_refl _
 | succ n ih=>intro h;have h1:=ih (fun i hi=>h i (by omega));have h2:=h n (by omega);rw [sumN,sumN];omega
theorem Cyc.none {ls rl:List Sp} {b:Nat→Int} (h:Cyc ls rl b) {y:Int→Int} (hy:Pot ls y):False:=by
 have h1:sumN rl.length (fun j=>y (b j)-y (b (j+1)))≤sumN rl.length (fun j=>rl[j]!.most):=sumN_le fun j hj=>by
  have h2:=h.mem j hj
  have:=hy _ h2.1
  rw [h2.2.1,h2.2.2] at this
  exact this
 have h3:∀n,sumN n (fun j=>y (b j)-y (b (j+1)))=y (b 0)-y (b n):=by
  intro n
  induction n with
  | zero=>simp [sumN]
  | succ n ih=>rw [sumN,ih];omega
 rw [h3,h.back] at h1
 have:=h.neg
 omega


structure Rep (n:Nat) (s:BS) (q:Int×List Int×List Sp):Prop where
 lst:q.1=s.last
 dl:q.2.1.length=n+1
 pl:q.2.2.length=n+1
 dv:∀v:Nat,v≤n→q.2.1[v]! = s.d v
 pv:∀v:Nat,v≤n→q.2.2[v]! = s.p v
def relaxL (s:Int×List Int×List Sp) (x:Sp):Int×List Int×List Sp :=
 if w64 (s.2.1[x.from_.toNat]! + x.most)<s.2.1[x.to_.toNat]! then (x.to_,s.2.1.set x.to_.toNat (w64 (s.2.1[x.from_.toNat]! + x.most)),s.2.2.set x.to_.toNat x) else s
structure Nodes (n:Nat) (ls:List Sp):Prop where
 frm:∀x∈ls,0≤x.from_∧x.from_≤n
 to:∀x∈ls,0≤x.to_∧x.to_≤n
 ne:∀x∈ls,x.from_≠x.to_
 bd:∀x∈ls,-18000≤x.most∧x.most≤18000
theorem nodes {c:Cs} (hv:Val c) (w:Int):Nodes c.Sheets.length (lsA c w):=by
 have key:∀x∈lsA c w,(0≤x.from_∧x.from_≤c.Sheets.length)∧(0≤x.to_∧x.to_≤c.Sheets.length)∧x.from_≠x.to_ ∧ -18000≤x.most∧x.most≤18000:=by
  intro x hx
  rcases ((mem_lsA hv).1 x).1 hx with ⟨i,h1,_,h2⟩|⟨i,h1,h2⟩
  ·have he:=hv.eg _ (mem_get h1)
   have hb:=want_bound hv (mem_get h1)
   rcases h2 with rfl|rfl
   ·simp only [stA,hi];refine ⟨⟨?_,?_⟩,⟨?_,?_⟩,?_,?_,?_⟩<;>omega
   ·simp only [stB,lo];refine ⟨⟨?_,?_⟩,⟨?_,?_⟩,?_,?_,?_⟩<;>omega
  ·have hm:=most_ok hv h1
   rcases h2 with rfl|rfl
   ·simp only [stU];refine ⟨⟨?_,?_⟩,⟨?_,?_⟩,?_,?_,?_⟩<;>omega
   ·simp only [stD];refine ⟨⟨?_,?_⟩,⟨?_,?_⟩,?_,?_,?_⟩<;>omega
 exact ⟨fun x hx=>(key x hx).1,fun x hx=>(key x hx).2.1,fun x hx=>(key x hx).2.2.1,fun x hx=>(key x hx).2.2.2⟩
def Bd (q:Int) (s:BS):Prop:=∀v,-(18000*q)≤s.d v∧s.d v≤1048576
theorem Rep.rel {n:Nat} {ls:List Sp} (hn:Nodes n ls) {s:BS} {q:Int×List Int×List Sp} (h:Rep n s q) {b:Int} (hb:Bd b s) (hb0:0≤b∧b≤1000) (r:Nat) {x:Sp} (hx:x∈ls):Rep n (relax r s x) (relaxL q x)∧Bd (b+1) (relax r s x):=by
 have h1:=hn.frm x hx
 have h2:=hn.to x hx
 have h3:=hn.bd x hx
 have hbf:=hb x.from_
 have e1:q.2.1[x.from_.toNat]! = s.d x.from_:=by rw [h.dv _ (by omega)];congr 1;omega
 have e2:q.2.1[x.to_.toNat]! = s.d x.to_:=by rw [h.dv _ (by omega)];congr 1;omega
 unfold relaxL relax
 rw [e1,e2,w64_id (by omega) (by omega)]
 by_cases hc:s.d x.from_+x.most<s.d x.to_
 ·rw [if_pos hc,if_pos hc]
  have hbt:=hb x.to_
  have hd:=h.dl
  have hp:=h.pl
  refine ⟨⟨rfl,by simp [h.dl],by simp [h.pl],fun v hv=>?_,fun v hv=>?_⟩,fun v=>?_⟩
  ·simp only
   rw [get_set (by omega) (by omega)]
   by_cases e:x.to_.toNat=v
   ·have:(v:Int)=x.to_:=by omega
    rw [if_pos e,this,upd_self]
   ·rw [if_neg e,upd_ne (by omega),h.dv v hv]
  ·simp only
   rw [get_set (by omega) (by omega)]
   by_cases e:x.to_.toNat=v
   ·have:(v:Int)=x.to_:=by omega
    rw [if_pos e,this,upd_self]
   ·rw [if_neg e,upd_ne (by omega),h.pv v hv]
  ·simp only
   have:=hb v
   by_cases e:v=x.to_
   ·subst e;rw [upd_self];omega
   ·rw [upd_ne e];omega
 ·rw [if_neg hc,if_neg hc]
  exact ⟨h,fun v=>by have:=hb v;omega⟩
theorem Rep.fold {n:Nat} {ls:List Sp} (hn:Nodes n ls) (r:Nat):∀(suf:List Sp) (s:BS) (q:Int×List Int×List Sp) (b:Int),(∀x∈suf,x∈ls)→Rep n s q→Bd b s→0≤b→b+suf.length≤1000→Rep n (suf.foldl (relax r) s) (suf.foldl relaxL q)∧Bd (b+suf.length) (suf.foldl (relax r) s):=by
 intro suf
 induction suf with
 | nil=>intro s q b _ h1 h2 _ _;exact ⟨h1,by simpa using h2⟩
 | cons x suf ih =>
  intro s q b hs h1 h2 h3 h4
  simp only [List.length_cons] at h4
  have h5:=h1.rel hn h2 ⟨h3,by omega⟩ r (hs x (by simp))
  have h6:=ih (relax r s x) (relaxL q x) (b+1) (fun y hy=>hs y (List.mem_cons_of_mem _ hy)) h5.1 h5.2 (by omega) (by omega)
  rw [List.foldl_cons,List.foldl_cons]
  refine ⟨h6.1,?_⟩
  have:=h6.2
  rw [show b+1+(suf.length:Int)=b+((x::suf).length:Int) by simp only [List.length_cons];omega] at this
  exact this

def Wv (ls:List Sp) (n:Nat) (f:Int) (s:BS):Prop:=(∀y,Pot ls y→∀v:Int,0≤v→v≤n→y v-y f≤s.d v)∧s.d f≤0
theorem Wv.rel {n:Nat} {ls:List Sp} (hn:Nodes n ls) {f:Int} {s:BS} (h:Wv ls n f s) (r:Nat) {x:Sp} (hx:x∈ls):Wv ls n f (relax r s x):=by
 unfold relax
 by_cases hc:s.d x.from_+x.most<s.d x.to_
 ·rw [if_pos hc]
  have h1:=hn.frm x hx
  refine ⟨fun y hy v h0 h9=>?_,?_⟩
  ·simp only
   by_cases e:v=x.to_
   ·subst e
    rw [upd_self]
    have h2:=hy x hx
    have h3:=h.1 y hy x.from_ h1.1 h1.2
    omega
   ·rw [upd_ne e];exact h.1 y hy v h0 h9
  ·simp only
   have:=h.2
   by_cases e:f=x.to_
   ·rw [←e,upd_self];rw [←e] at hc;omega
   ·rw [upd_ne e];exact this
 ·rw [if_neg hc];exact h
theorem Wv.fold {n:Nat} {ls:List Sp} (hn:Nodes n ls) {f:Int} (r:Nat):∀(suf:List Sp) (s:BS),(∀x∈suf,x∈ls)→Wv ls n f s→Wv ls n f (suf.foldl (relax r) s):=by
 intro suf
 induction suf with
 | nil=>intro s _ h;exact h
 | cons x suf ih=>intro s hs h;exact ih _ (fun y hy=>hs y (List.mem_cons_of_mem _ hy)) (h.rel hn r (hs x (by simp)))

theorem e64L3 {k n:Nat} {ls:List Sp} (hn:Nodes n ls) (hl:ls.length≤26) (hk:40≤k) {q:Int×List Int×List Sp} (hd:q.2.1.length=n+1) (hp:q.2.2.length=n+1):F64L3 ls k (q.1,0,q.2.1,q.2.2)=some (.inr (ls.foldl relaxL q)):=by
 have h:=for_fold (l:=ls) (L:=F64L3 ls) (β:=List Int×List Sp) (σ:=Int×List Int×List Sp) (fun i s=>(s.1,(i:Int),s.2.1,s.2.2)) (fun s=>s) (fun _ x s=>relaxL s x) (fun _ s=>s.2.1.length=n+1∧s.2.2.length=n+1)
  (fun i s hi hp=>by unfold relaxL;split<;>simp [hp.1,hp.2])
  (fun m i s hi hq=>by
   have h1:=hn.frm _ (mem_get hi)
   have h2:=hn.to _ (mem_get hi)
   rw [F64L3]
   dsimp only
   rw [if_pos (by simp;omega),idx_nat hi,Option.bind_some,idx_bang (l:=s.2.1) (c:=ls[i]!.from_) (by omega) (by omega),Option.bind_some,idx_bang (l:=s.2.1) (c:=ls[i]!.to_) (by omega) (by omega),Option.bind_some,w64_id (n:=(i:Int)+1) (by omega) (by omega)]
   unfold relaxL
   by_cases hc:w64 (s.2.1[ls[i]!.from_.toNat]! + ls[i]!.most)<s.2.1[ls[i]!.to_.toNat]!
   ·rw [if_pos (decide_eq_true hc),if_pos hc,Option.bind_some,idx_bang (l:=s.2.2) (by omega) (by omega),Option.bind_some];rfl
   ·rw [if_neg (by rw [decide_eq_false hc];simp),if_neg hc];rfl)
  (fun m s _=>by rw [F64L3,if_neg (by simp)]) k q ⟨hd,hp⟩ (by omega)
 rw [foldI_const] at h
 exact h
theorem last_cases {n r:Nat} {ls:List Sp} (hn:Nodes n ls) {s:BS} (h:Rv ls r ls s):s.last = -1∨0≤s.last:=by
 rcases h.lst with ⟨h1,_⟩|⟨_,x,hx,h1⟩
 ·exact .inl h1
 ·have:=hn.to x hx;right;omega
theorem e64L2 {k n:Nat} {c:Cs} (hs:c.Sheets.length=n) (h5:n≤5) {ls:List Sp} (hn:Nodes n ls) (hl:ls.length≤26) (hk:40≤k) {f:Int}:∀(m r g:Nat) (s:BS) (q:Int×List Int×List Sp),m+r=n+2→m<g→Bv ls r s→Rep n s q→Bd (26*r) s→Wv ls n f s→(r=0∨(Rv ls r ls s∧s.last ≠ -1)) →
 ∃s' q',F64L2 k c.Sheets ls g (q.1,(r:Int),q.2.1,q.2.2)=some (.inr q')∧Rep n s' q'∧Wv ls n f s'∧((s'.last = -1∧∃r',Rv ls r' ls s')∨(0≤s'.last∧Rv ls (n+2) ls s')):=by
 intro m
 induction m with
 | zero =>
  intro r g s q hm hg hb hr _ hw ho
  obtain ⟨g,rfl⟩:∃x,g=x+1:=⟨g-1,by omega⟩
  rcases ho with h0|⟨hrv,hne⟩
  ·omega
  ·refine ⟨s,q,?_,hr,hw,.inr ⟨?_,?_⟩⟩
   ·rw [F64L2]
    dsimp only
    rw [w64_id (n:=(c.Sheets.length:Int)+1) (by omega) (by omega),w64_id (by omega) (by omega),if_neg (by simp;omega)]
   ·rcases last_cases hn hrv with h|h
    ·exact absurd h hne
    ·exact h
   ·rw [show n+2=r by omega];exact hrv
 | succ m ih =>
  intro r g s q hm hg hb hr hbd hw _
  obtain ⟨g,rfl⟩:∃x,g=x+1:=⟨g-1,by omega⟩
  have hr0:Rep n ⟨s.d,s.p,s.t,s.ts,s.clk,-1⟩ (-1,q.2.1,q.2.2):=⟨rfl,hr.dl,hr.pl,hr.dv,hr.pv⟩
  have hf:=Rep.fold hn (r+1) ls _ _ (26*r) (fun x hx=>hx) hr0 (fun v=>hbd v) (by omega) (by omega)
  have hrv:=hb.next hn.ne
  have hwn:Wv ls n f (rnd (r+1) ls s):=Wv.fold hn (r+1) ls _ (fun x hx=>hx) ⟨hw.1,hw.2⟩
  have e3:=e64L3 hn hl hk (q:=(-1,q.2.1,q.2.2)) hr.dl hr.pl
  have hrn:Rep n (rnd (r+1) ls s) (ls.foldl relaxL (-1,q.2.1,q.2.2)):=hf.1
  have hbn:Bd (26*((r+1:Nat):Int)) (rnd (r+1) ls s):=fun v=>by
   have:=hf.2 v
   have e:(rnd (r+1) ls s).d v=(List.foldl (relax (r+1)) ⟨s.d,s.p,s.t,s.ts,s.clk,-1⟩ ls).d v:=rfl
   rw [e]
   omega
  have hlast:=last_cases hn hrv
  have hlst:=hrn.lst
  rcases hlast with hl1|hl1
  ·refine ⟨rnd (r+1) ls s,ls.foldl relaxL (-1,q.2.1,q.2.2),?_,hrn,hwn,.inl ⟨hl1,r+1,hrv⟩⟩
   rw [F64L2]
   dsimp only
   rw [w64_id (n:=(c.Sheets.length:Int)+1) (by omega) (by omega),w64_id (n:=(c.Sheets.length:Int)+1+1) (by omega) (by omega),if_pos (by simp;omega),e3,Option.bind_some]
   simp only [outK]
   rw [if_pos (by simp;omega)]
  ·obtain ⟨s',q',h1,h2⟩:=ih (r+1) g (rnd (r+1) ls s) (ls.foldl relaxL (-1,q.2.1,q.2.2)) (by omega) (by omega) hrv.bv hrn hbn hwn (.inr ⟨hrv,by omega⟩)
   refine ⟨s',q',?_,h2⟩
   rw [F64L2]
   dsimp only
   rw [w64_id (n:=(c.Sheets.length:Int)+1) (by omega) (by omega),w64_id (n:=(c.Sheets.length:Int)+1+1) (by omega) (by omega),if_pos (by simp;omega),e3,Option.bind_some]
   simp only [outK]
   rw [if_neg (by simp;omega),w64_id (n:=(r:Int)+1) (by omega) (by omega)]
   exact h1
theorem e64L4 {n:Nat} {c:Cs} (hs:c.Sheets.length=n) (h5:n≤5) {s:BS} {q:Int×List Int×List Sp} (hr:Rep n s q):∀(m i g:Nat) (a:Int),m+i=n+1→m<g→(∀j,j≤m→0≤back s j a∧back s j a≤n)→F64L4 c.Sheets q g (a,(i:Int))=some (.inr (back s m a)):=by
 intro m
 induction m with
 | zero =>
  intro i g a hm hg _
  obtain ⟨g,rfl⟩:∃x,g=x+1:=⟨g-1,by omega⟩
  rw [F64L4]
  dsimp only
  rw [w64_id (n:=(c.Sheets.length:Int)+1) (by omega) (by omega),if_neg (by simp;omega)]
  rfl
 | succ m ih =>
  intro i g a hm hg hb
  obtain ⟨g,rfl⟩:∃x,g=x+1:=⟨g-1,by omega⟩
  have h0:=hb 0 (by omega)
  simp only [back] at h0
  have hp:=hr.pl
  have e:q.2.2[a.toNat]! = s.p a:=by rw [hr.pv _ (by omega)];congr 1;omega
  rw [F64L4]
  dsimp only
  rw [w64_id (n:=(c.Sheets.length:Int)+1) (by omega) (by omega),if_pos (by simp;omega),idx_bang (by omega) (by omega),Option.bind_some,e,w64_id (n:=(i:Int)+1) (by omega) (by omega)]
  exact ih (i+1) g (prev s a) (by omega) (by omega) (fun j hj=>hb (j+1) (by omega))
theorem e64L5 {n:Nat} {s:BS} {q:Int×List Int×List Sp} (hr:Rep n s q) {b:Int} {L:Nat} (hL:1≤L∧L≤100) (hb:∀j,j≤L→0≤back s j b∧back s j b≤n) (hc:back s L b=b) (hmin:∀j,1≤j→j<L→back s j b≠b):∀(m j g:Nat),m+j=L→m<g→F64L5 q b g (back s j b,(List.range j).map (fun i=>s.p (back s i b)))=some (.inr ((List.range L).map (fun i=>s.p (back s i b)))):=by
 intro m
 induction m with
 | zero =>
  intro j g hm hg
  obtain ⟨g,rfl⟩:∃x,g=x+1:=⟨g-1,by omega⟩
  have e:j=L:=by omega
  subst e
  rw [F64L5]
  dsimp only
  rw [hc,if_neg]
  have h1:(((List.map (fun i=>s.p (back s i b)) (List.range j)).length:Int)==0)=false:=by
   simp;omega
  rw [h1]
  simp
 | succ m ih =>
  intro j g hm hg
  obtain ⟨g,rfl⟩:∃x,g=x+1:=⟨g-1,by omega⟩
  have hj:=hb j (by omega)
  have hp:=hr.pl
  have e:q.2.2[(back s j b).toNat]! = s.p (back s j b):=by rw [hr.pv _ (by omega)];congr 1;omega
  rw [F64L5]
  dsimp only
  have hcond:(cond (((List.map (fun i=>s.p (back s i b)) (List.range j)).length:Int)==0) true (back s j b != b))=true:=by
   cases j with
   | zero=>rfl
   | succ j =>
    have:=hmin (j+1) (by omega) (by omega)
    rw [show (back s (j+1) b != b)=true by simpa using this]
    cases (((List.map (fun i=>s.p (back s i b)) (List.range (j+1))).length:Int)==0)<;>rfl
  rw [if_pos hcond,idx_bang (by omega) (by omega),Option.bind_some,need_true (by simp;omega),Option.bind_some,Option.bind_some,e]
  have h2:=ih (j+1) g (by omega) (by omega)
  rw [List.range_succ,List.map_append,back_succ] at h2
  exact h2
theorem wayN_sum (s:BS):∀(n:Nat) (v:Int),wayN s n v=sumN n (fun j=>(s.p (back s j v)).most):=by
 have h:∀(n:Nat) (v:Int),wayN s (n+1) v=wayN s n v+(s.p (back s n v)).most:=by
  intro n
  induction n with
  | zero=>intro v;simp [wayN,back]
  | succ n ih=>intro v;rw [wayN,ih,wayN,back];omega
 intro n
 induction n with
 | zero=>intro v;rfl
 | succ n ih=>intro v;rw [h,ih,sumN]

theorem least_from {P:Nat→Prop}:∀(L:Nat),1≤L→P L→∃m,1≤m∧m≤L∧P m∧∀j,1≤j→j<m→¬P j:=by
 intro L
 induction L using Nat.strongRecOn with
 | _ L ih =>
  intro h1 h2
  by_cases hx:∃j,1≤j∧j<L∧P j
  ·obtain ⟨j,a,b,d⟩:=hx
   obtain ⟨m,e1,e2,e3⟩:=ih j b a d
   exact ⟨m,e1,by omega,e3⟩
  ·exact ⟨L,h1,Nat.le_refl _,h2,fun j a b d=>hx ⟨j,a,b,d⟩⟩
end Go.Proofs.Ytallnifoeahpiaa
namespace Go.Proofs.Ytallnifoeahpiaa
open Go Go.Sx
set_option linter.all false


def pf (d:List Int):Int→Int:=fun v=>d[v.toNat]!
theorem e64L1 {k n:Nat} {c:Cs} (hs:c.Sheets.length=n) (h5:n≤5) (hk:40≤k):F64L1 c.Sheets k (0,List.replicate (n+1) 0)=some (.inr (List.replicate (n+1) 1048576)):=by
 have hw:(w64 ((c.Sheets.length:Int)+1)).toNat=n+1:=by rw [w64_id (by omega) (by omega)];omega
 have h:=for_fold (l:=List.replicate (n+1) (0:Int)) (L:=F64L1 c.Sheets) (β:=List Int×List Sp) (σ:=List Int) (fun i s=>((i:Int),s)) (fun s=>s) (fun i _ s=>s.set i 1048576) (fun i s=>s.length=n+1)
  (fun i s hi hp=>by simp [hp])
  (fun m i s hi hp=>by
   simp only [List.length_replicate] at hi
   rw [F64L1]
   dsimp only
   rw [hw,if_pos (by simp;omega),idx_nat (by omega),Option.bind_some,w64_id (n:=(i:Int)+1) (by omega) (by omega),Int.toNat_natCast];rfl)
  (fun m s _=>by rw [F64L1];dsimp only;rw [hw,if_neg (by simp)]) k (List.replicate (n+1) 0) (by simp) (by simp;omega)
 rw [show ((0:Int),List.replicate (n+1) (0:Int))=(((0:Nat):Int),List.replicate (n+1) 0) from rfl,h]
 have h2:=foldI_inv (l:=List.replicate (n+1) (0:Int)) (fun i _ (s:List Int)=>s.set i 1048576) (fun j s=>s.length=n+1∧∀i,i<j→s[i]? = some 1048576)
  (fun i s hi hp=>by
   simp only [List.length_replicate] at hi
   refine ⟨by simp [hp.1],fun j hj=>?_⟩
   by_cases e:i=j
   ·subst e;rw [List.getElem?_set_self (by omega)]
   ·rw [List.getElem?_set_ne e];exact hp.2 j (by omega)) (List.replicate (n+1) 0) ⟨by simp,fun i hi=>by omega⟩
 congr 2
 apply List.ext_getElem?
 intro i
 by_cases hi:i<n+1
 ·rw [h2.2 i (by simpa using hi)];simp [hi]
 ·rw [List.getElem?_eq_none (by rw [h2.1];omega),List.getElem?_eq_none (by simp;omega)]

theorem e64 {k:Nat} {c:Cs} (hk:40≤k) (hv:Val c) (w:Int) (f:Nat) (hf:f≤c.Sheets.length) (t:Int) (mm:List (List Int×Int)) :
 (∃d:List Int,F64 k f w t c.Sheets c.Edges (wl c) mm=some (d,[])∧d.length=c.Sheets.length+1∧Pot (lsA c w) (pf d)∧d[f]! = 0∧∀y,Pot (lsA c w) y→∀v:Nat,v≤c.Sheets.length→y v-y f≤d[v]!) ∨
 (∃rl b,F64 k f w t c.Sheets c.Edges (wl c) mm=some ([],rl)∧Cyc (lsA c w) rl b∧∀j,0≤b j∧b j≤c.Sheets.length):=by
 have hs:=hv.sheets
 obtain ⟨n,hn⟩:∃n,c.Sheets.length=n:=⟨_,rfl⟩
 have hnd:=nodes hv w
 rw [hn] at hnd hf hs
 have hl:=(mem_lsA hv (w:=w)).2
 have hw1:w64 ((n:Int)+1)=(n:Int)+1:=w64_id (by omega) (by omega)

 let s0:BS:=⟨fun v=>if v=(f:Int) then 0 else 1048576,fun _=>⟨0,0,0,0,0⟩,fun _=>0,fun _=>0,0,-1⟩
 have hb0:Bv (lsA c w) 0 s0:=⟨⟨fun v h=>by simp [s0] at h,fun v h=>by simp [s0] at h,fun v h=>by simp [s0] at h,fun v h=>by simp [s0] at h,fun v=>by simp [s0],fun v=>by simp [s0],fun v w h=>by simp [s0] at h⟩,fun v=>by simp [s0],fun x _ h=>by simp [s0] at h⟩
 have hr0:Rep n s0 (-1,(List.replicate (n+1) 1048576).set f 0,List.replicate (n+1) ⟨0,0,0,0,0⟩):=by
  refine ⟨rfl,by simp,by simp,fun v hv=>?_,fun v hv=>?_⟩
  ·simp only [s0]
   rw [get_set (by simp;omega) (by simp;omega)]
   by_cases e:f=v
   ·rw [if_pos e,if_pos (by omega)]
   ·rw [if_neg e,if_neg (by omega),get_rep (by omega)]
  ·simp only [s0];rw [get_rep (by omega)]
 have hd0:Bd (26*((0:Nat):Int)) s0:=fun v=>by simp only [s0];split<;>omega
 have hw0:Wv (lsA c w) n f s0:=by
  refine ⟨fun y hy v h0 h9=>?_,by simp [s0]⟩
  simp only [s0]
  by_cases e:v=(f:Int)
  ·rw [if_pos e,e];omega
  ·rw [if_neg e]

   have hm:=(mem_lsA hv (w:=w)).1
   have up:∀i:Nat,i<n→y i-y n≤6:=fun i hi=>by
    have h1:=hy (stU c i) ((hm _).2 (.inr ⟨i,by omega,.inl rfl⟩))
    have h2:=most_ok hv (i:=i) (by omega)
    simp only [stU,hn] at h1
    omega
   have dn:∀i:Nat,i<n→y n-y i≤6:=fun i hi=>by
    have h1:=hy (stD c i) ((hm _).2 (.inr ⟨i,by omega,.inr rfl⟩))
    have h2:=most_ok hv (i:=i) (by omega)
    simp only [stD,hn] at h1
    omega
   have a1:y v-y n≤6:=by
    by_cases e2:v=n
    ·rw [e2];omega
    ·have:=up v.toNat (by omega)
     rw [show ((v.toNat:Nat):Int)=v by omega] at this
     exact this
   have a2:y n-y f≤6:=by
    by_cases e2:f=n
    ·rw [e2];omega
    ·exact dn f (by omega)
   omega
 obtain ⟨s',q',h1,h2,h3,h4⟩:=e64L2 hn hs.2 hnd hl hk (f:=f) (n+2) 0 k s0 (-1,(List.replicate (n+1) 1048576).set f 0,List.replicate (n+1) ⟨0,0,0,0,0⟩) (by omega) (by omega) hb0 hr0 hd0 hw0 (.inl rfl)
 have hrun:∀R,(if (decide (q'.1<0)) then ((need (0<q'.2.1.length)).bind fun x26=>some (q'.2.1,([]:List Sp))) else ((F64L4 c.Sheets q' k (q'.1,0)).bind fun o27=>outK o27 (fun (ro27:(List Int)×(List Sp))=>some ro27) (fun (so27:Int)=>(F64L5 q' so27 k (so27,([]:List Sp))).bind fun o33=>outK o33 (fun (ro33:(List Int)×(List Sp))=>some ro33) (fun (so33:(List Sp))=>(need (0<so33.length)).bind fun x40=>some (([]:List Int),so33)))))=R→F64 k f w t c.Sheets c.Edges (wl c) mm=R:=by
  intro R hR
  unfold F64
  rw [e86 (by omega) hv,Option.bind_some,hn,hw1,need_true (by omega),Option.bind_some,need_true (by omega),Option.bind_some,show ((n:Int)+1).toNat=n+1 by omega,e64L1 hn hs.2 hk,Option.bind_some]
  simp only [outK]
  rw [idx_nat (by simp;omega),Option.bind_some,Int.toNat_natCast]
  have h1':F64L2 k c.Sheets (lsA c w) k (-1,0,(List.replicate (n+1) 1048576).set f 0,List.replicate (n+1) ⟨0,0,0,0,0⟩)=_:=h1
  rw [h1',Option.bind_some]
  exact hR
 rcases h4 with ⟨hl1,r',hrv⟩|⟨hl1,hrv⟩
 ·left
  refine ⟨q'.2.1,hrun _ ?_,by rw [h2.dl,hn],?_,?_,?_⟩
  ·rw [if_pos (by simp [h2.lst,hl1]),need_true (by rw [h2.dl];omega),Option.bind_some]
  ·have hst:=hrv.still hl1 (fun x hx=>by have:=hnd.to x hx;omega)
   intro x hx
   have:=hst x hx
   have a1:=hnd.to x hx
   have a2:=hnd.frm x hx
   unfold pf
   rw [h2.dv _ (by omega),h2.dv _ (by omega),show ((x.to_.toNat:Nat):Int)=x.to_ by omega,show ((x.from_.toNat:Nat):Int)=x.from_ by omega]
   omega
  ·have hst:=hrv.still hl1 (fun x hx=>by have:=hnd.to x hx;omega)
   have h5:=h3.1 s'.d (fun x hx=>by have:=hst x hx;omega) f (by omega) (by omega)
   have h6:=h3.2
   rw [h2.dv _ (by omega)]
   omega
  ·intro y hy v hv'
   rw [h2.dv v (by omega)]
   exact h3.1 y hy v (by omega) (by omega)
 ·right
  obtain ⟨L,a1,a2,a3,a4⟩:=comes_round hrv (by omega) (fun x hx=>⟨hnd.frm x hx,hnd.to x hx⟩)
  obtain ⟨M,b1,b2,b3,b4⟩:=least_from (P:=fun j=>back s' j (back s' (n+1) s'.last)=back s' (n+1) s'.last) L a1 a4
  have hst:∀j,j≤M→0<s'.t (back s' j (back s' (n+1) s'.last))∧0≤back s' j (back s' (n+1) s'.last)∧back s' j (back s' (n+1) s'.last)≤n:=fun j hj=>by rw [←back_add];exact a3 _ (by omega)
  have hper:∀j,0≤back s' j (back s' (n+1) s'.last)∧back s' j (back s' (n+1) s'.last)≤n:=by
   intro j
   induction j using Nat.strongRecOn with
   | _ j ih =>
    by_cases hj:j≤M
    ·exact (hst j hj).2
    ·have e:back s' j (back s' (n+1) s'.last)=back s' (j-M) (back s' (n+1) s'.last):=by
      rw [show j=M+(j-M) by omega,back_add,b3,show M+(j-M)-M=j-M by omega]
     rw [e];exact ih (j-M) (by omega)
  refine ⟨(List.range M).map (fun i=>s'.p (back s' i (back s' (n+1) s'.last))),fun j=>back s' j (back s' (n+1) s'.last),hrun _ ?_,?_,fun j=>by rw [hn];exact hper j⟩
  ·have h7:F64L4 c.Sheets q' k (q'.1,0)=_:=e64L4 hn hs.2 h2 (n+1) 0 k q'.1 (by omega) (by omega) (fun j hj=>by rw [h2.lst];exact (a3 j (by omega)).2)
   rw [if_neg (by simp [h2.lst];omega),h7,Option.bind_some]
   simp only [outK]
   have h8:=e64L5 h2 (b:=back s' (n+1) s'.last) (L:=M) ⟨b1,by omega⟩ (fun j hj=>(hst j hj).2) b3 b4 M 0 k (by omega) (by omega)
   rw [List.range_zero,List.map_nil] at h8
   have h9:F64L5 q' (back s' (n+1) s'.last) k (back s' (n+1) s'.last,[])=_:=h8
   rw [h2.lst,h9,Option.bind_some]
   simp only [outK]
   rw [need_true (by simp;omega),Option.bind_some]
  ·have hget:∀j,j<M→((List.range M).map (fun i=>s'.p (back s' i (back s' (n+1) s'.last))))[j]! = s'.p (back s' j (back s' (n+1) s'.last)):=fun j hj=>by
    rw [getElem!_pos _ j (by simpa using hj)];simp
   constructor
   ·simpa using b1
   ·intro j hj
    simp only [List.length_map,List.length_range] at hj
    rw [hget j hj]
    have:=hrv.iv.pin _ (hst j (by omega)).1
    exact ⟨this.1,this.2,(back_succ s' j _).symm⟩
   ·simp only [List.length_map,List.length_range];exact b3
   ·intro i j hij hj he
    simp only [List.length_map,List.length_range] at hj
    refine b4 (i+(M-j)) (by omega) (by omega) ?_
    rw [back_add,he,←back_add,show j+(M-j)=M by omega]
    exact b3
   ·simp only [List.length_map,List.length_range]
    rw [sumN_congr (g:=fun j=>(s'.p (back s' j (back s' (n+1) s'.last))).most) (fun i hi=>by rw [hget i hi]),←wayN_sum]
    exact way_lt hrv.iv hnd.ne b1 (fun j hj=>(hst j (by omega)).1) b3
   ·simp only [List.length_map,List.length_range];omega



structure Fe (c:Cs) (w:Int) (x:List Int):Prop where
 box:∀i,i<c.Sheets.length → -c.Sheets[i]!.Most≤x[i]! ∧ x[i]! ≤ c.Sheets[i]!.Most
 eg:∀i,i<c.Edges.length→keep w i=true→lo c i≤x[c.Edges[i]!.A.toNat]! - x[c.Edges[i]!.B.toNat]! ∧ x[c.Edges[i]!.A.toNat]! - x[c.Edges[i]!.B.toNat]! ≤ hi c i
theorem fe_pot {c:Cs} (hv:Val c) {w:Int} {x:List Int} (hn:x[c.Sheets.length]! = 0):Fe c w x↔Pot (lsA c w) (pf x):=by
 have hm:=(mem_lsA hv (w:=w)).1
 constructor
 ·intro h y hy
  rcases (hm y).1 hy with ⟨i,h1,h2,rfl|rfl⟩|⟨i,h1,rfl|rfl⟩
  ·have:=h.eg i h1 h2;simp only [stA,pf];omega
  ·have:=h.eg i h1 h2;simp only [stB,pf];omega
  ·have:=h.box i h1;simp only [stU,pf,Int.toNat_natCast];omega
  ·have:=h.box i h1;simp only [stD,pf,Int.toNat_natCast];omega
 ·intro h
  refine ⟨fun i hi'=>?_,fun i hi' hk=>?_⟩
  ·have a1:=h _ ((hm _).2 (.inr ⟨i,hi',.inl rfl⟩))
   have a2:=h _ ((hm _).2 (.inr ⟨i,hi',.inr rfl⟩))
   simp only [stU,stD,pf,Int.toNat_natCast] at a1 a2
   omega
  ·have a1:=h _ ((hm _).2 (.inl ⟨i,hi',hk,.inl rfl⟩))
   have a2:=h _ ((hm _).2 (.inl ⟨i,hi',hk,.inr rfl⟩))
   simp only [stA,stB,pf] at a1 a2
   omega

def chOf (n:Nat) (y:Int→Int):List Int:=(List.range n).map fun (i:Nat)=>y i-y n
theorem chOf_get {n i:Nat} {y:Int→Int} (h:i<n):(chOf n y)[i]! = y i-y n:=by
 unfold chOf
 rw [getElem!_pos _ i (by simpa using h)];simp
theorem chOf_end {n:Nat} {y:Int→Int}:(chOf n y)[n]! = 0:=by
 unfold chOf
 rw [getElem!_def,List.getElem?_eq_none (by simp)];rfl
theorem chOf_fe {c:Cs} (hv:Val c) {w:Int} {y:Int→Int} (hy:Pot (lsA c w) y):Fe c w (chOf c.Sheets.length y):=by
 rw [fe_pot hv chOf_end]
 have hnd:=nodes hv w
 intro x hx
 have h1:=hnd.frm x hx
 have h2:=hnd.to x hx
 have key:∀v:Int,0≤v→v≤c.Sheets.length→pf (chOf c.Sheets.length y) v=y v-y c.Sheets.length:=by
  intro v a b
  unfold pf
  by_cases e:v=c.Sheets.length
  ·rw [e,Int.toNat_natCast,chOf_end];omega
  ·rw [chOf_get (by omega),show ((v.toNat:Nat):Int)=v by omega]
 rw [key _ h1.1 h1.2,key _ h2.1 h2.2]
 have:=hy x hx
 omega

theorem tight {k:Nat} {c:Cs} (hk:40≤k) (hv:Val c) (w:Int) (f:Nat) (hf:f≤c.Sheets.length) (t:Int) (mm:List (List Int×Int)) :
 (∃d:List Int,F64 k f w t c.Sheets c.Edges (wl c) mm=some (d,[])∧d.length=c.Sheets.length+1∧d[f]! = 0∧Fe c w (chOf c.Sheets.length (pf d))∧∀x,Fe c w x→x[c.Sheets.length]! = 0→∀v:Nat,v≤c.Sheets.length→x[v]! - x[f]! ≤ d[v]!) ∨
 (∃rl b,F64 k f w t c.Sheets c.Edges (wl c) mm=some ([],rl)∧Cyc (lsA c w) rl b∧(∀j,0≤b j∧b j≤c.Sheets.length)∧∀x,¬(Fe c w x∧x[c.Sheets.length]! = 0)):=by
 rcases e64 hk hv w f hf t mm with ⟨d,h1,h2,h3,h4,h5⟩|⟨rl,b,h1,h2,h3⟩
 ·exact .inl ⟨d,h1,h2,h4,chOf_fe hv h3,fun x hx hn v hv'=>h5 _ ((fe_pot hv hn).1 hx) v hv'⟩
 ·exact .inr ⟨rl,b,h1,h2,h3,fun x ⟨hx,hn⟩=>h2.none ((fe_pot hv hn).1 hx)⟩
end Go.Proofs.Ytallnifoeahpiaa
