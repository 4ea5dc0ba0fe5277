/- How far things can be above each other: steps taken again and again. -/
import Derived.Test.YtallnifoeahpiaaPL
import Derived.Test.YtallnifoeahpiaaP
namespace Go.Proofs.Ytallnifoeahpiaa
open Go Go.Sx
set_option linter.all false

abbrev Sp:=S_edge_step
def upd {α:Type} (f:Int→α) (v:Int) (x:α):Int→α:=fun w=>if w=v then x else f w
theorem upd_self {α:Type} {f:Int→α} {v:Int} {x:α}:upd f v x v=x:=if_pos rfl
theorem upd_ne {α:Type} {f:Int→α} {v w:Int} {x:α} (h:w≠v):upd f v x w=f w:=if_neg h


structure BS where
 d:Int→Int
 p:Int→Sp
 t:Int→Nat
 ts:Int→Nat
 clk:Nat
 last:Int
def relax (r:Nat) (s:BS) (x:Sp):BS :=
 if s.d x.from_+x.most<s.d x.to_ then ⟨upd s.d x.to_ (s.d x.from_+x.most),upd s.p x.to_ x,upd s.t x.to_ r,upd s.ts x.to_ (s.clk+1),s.clk+1,x.to_⟩ else s
def rnd (r:Nat) (ls:List Sp) (s:BS):BS:=ls.foldl (relax r) ⟨s.d,s.p,s.t,s.ts,s.clk,-1⟩

structure Iv (ls:List Sp) (s:BS):Prop where
 pin:∀v,0<s.t v→s.p v∈ls∧(s.p v).to_=v
 le:∀v,0<s.t v→s.d (s.p v).from_+(s.p v).most≤s.d v
 lt:∀v,0<s.t v→s.ts v<s.ts (s.p v).from_→s.d (s.p v).from_+(s.p v).most<s.d v
 tt:∀v,0<s.t v→s.t v≤s.t (s.p v).from_+1
 cl:∀v,s.ts v≤s.clk
 pos:∀v,0<s.t v↔0<s.ts v
 inj:∀v w,0<s.ts v→s.ts v=s.ts w→v=w
theorem Iv.rel {ls:List Sp} {s:BS} (h:Iv ls s) {r:Nat} (hr:1≤r) {x:Sp} (hx:x∈ls) (hne:x.from_≠x.to_) (hle:∀v,s.t v≤r) (hj:s.d x.from_+x.most<s.d x.to_→r≤s.t x.from_+1):Iv ls (relax r s x):=by
 unfold relax
 by_cases hc:s.d x.from_+x.most<s.d x.to_
 ·rw [if_pos hc]
  have hfr:upd s.d x.to_ (s.d x.from_+x.most) x.from_=s.d x.from_:=upd_ne hne
  constructor
  ·intro v hv
   by_cases e:v=x.to_
   ·subst e;simp only [upd_self];exact ⟨hx,trivial⟩
   ·simp only [upd_ne e] at hv ⊢;exact h.pin v hv
  ·intro v hv
   by_cases e:v=x.to_
   ·subst e;simp only [upd_self,upd_ne hne];exact Int.le_refl _
   ·simp only [upd_ne e] at hv ⊢
    have:=h.le v hv
    by_cases e2:(s.p v).from_=x.to_
    ·rw [e2] at this ⊢;rw [upd_self];omega
    ·rw [upd_ne e2];exact this
  ·intro v hv
   by_cases e:v=x.to_
   ·subst e
    simp only [upd_self,upd_ne hne]
    intro hlt
    have:=h.cl x.from_
    omega
   ·simp only [upd_ne e] at hv ⊢
    by_cases e2:(s.p v).from_=x.to_
    ·intro _
     have:=h.le v hv
     rw [e2] at this ⊢;rw [upd_self];omega
    ·rw [upd_ne e2,upd_ne e2];exact h.lt v hv
  ·intro v hv
   by_cases e:v=x.to_
   ·subst e;simp only [upd_self,upd_ne hne];exact hj hc
   ·simp only [upd_ne e] at hv ⊢
    by_cases e2:(s.p v).from_=x.to_
    ·rw [e2,upd_self];have:=hle v;omega
    ·rw [upd_ne e2];exact h.tt v hv
  ·intro v
   by_cases e:v=x.to_
   ·subst e;simp only [upd_self];omega
   ·simp only [upd_ne e];have:=h.cl v;omega
  ·intro v
   by_cases e:v=x.to_
   ·subst e;simp only [upd_self];omega
   ·simp only [upd_ne e];exact h.pos v
  ·intro v w hv hvw
   by_cases e:v=x.to_<;>by_cases e2:w=x.to_
   ·rw [e,e2]
   ·subst e;simp only [upd_self,upd_ne e2] at hvw;have:=h.cl w;omega
   ·subst e2;simp only [upd_self,upd_ne e] at hvw;have:=h.cl v;omega
   ·simp only [upd_ne e,upd_ne e2] at hv hvw;exact h.inj v w hv hvw
 ·rw [if_neg hc];exact h


structure Rv (ls:List Sp) (r:Nat) (pre:List Sp) (s:BS):Prop where
 iv:Iv ls s
 top:∀v,s.t v≤r
 old:∀x∈ls,s.t x.from_+1<r→s.d x.to_≤s.d x.from_+x.most
 new:∀x∈pre,s.t x.from_<r→s.d x.to_≤s.d x.from_+x.most
 lst:(s.last = -1∧∀v,s.t v<r)∨(s.t s.last=r∧∃x∈ls,x.to_=s.last)
theorem Rv.step {ls:List Sp} {r:Nat} (hr:1≤r) {pre:List Sp} {s:BS} (h:Rv ls r pre s) {x:Sp} (hx:x∈ls) (hne:x.from_≠x.to_):Rv ls r (pre++[x]) (relax r s x):=by
 have hj:s.d x.from_+x.most<s.d x.to_→r≤s.t x.from_+1:=by
  intro hc
  apply Nat.le_of_not_lt
  intro hlt
  have:=h.old x hx hlt
  omega
 have hiv:=h.iv.rel hr hx hne h.top hj
 refine ⟨hiv,?_,?_,?_,?_⟩<;>unfold relax<;>by_cases hc:s.d x.from_+x.most<s.d x.to_
 ·rw [if_pos hc]
  intro v
  by_cases e:v=x.to_
  ·subst e;simp only [upd_self];omega
  ·simp only [upd_ne e];exact h.top v
 ·rw [if_neg hc];exact h.top
 ·rw [if_pos hc]
  intro y hy
  simp only
  by_cases e:y.from_=x.to_
  ·rw [e,upd_self];omega
  ·rw [upd_ne e,upd_ne e]
   intro hlt
   have:=h.old y hy hlt
   by_cases e2:y.to_=x.to_
   ·rw [e2,upd_self];rw [e2] at this;omega
   ·rw [upd_ne e2];exact this
 ·rw [if_neg hc];exact h.old
 ·rw [if_pos hc]
  intro y hy
  simp only
  by_cases e:y.from_=x.to_
  ·rw [e,upd_self];omega
  ·rw [upd_ne e,upd_ne e]
   intro hlt
   rcases List.mem_append.1 hy with hy|hy
   ·have:=h.new y hy hlt
    by_cases e2:y.to_=x.to_
    ·rw [e2,upd_self];rw [e2] at this;omega
    ·rw [upd_ne e2];exact this
   ·rw [List.mem_singleton] at hy;subst hy;rw [upd_self];omega
 ·rw [if_neg hc]
  intro y hy hlt
  rcases List.mem_append.1 hy with hy|hy
  ·exact h.new y hy hlt
  ·rw [List.mem_singleton] at hy;subst hy;omega
 ·rw [if_pos hc]
  exact .inr ⟨by simp only [upd_self],x,hx,rfl⟩
 ·rw [if_neg hc];exact h.lst
theorem Rv.fold {ls:List Sp} {r:Nat} (hr:1≤r) (hne:∀x∈ls,x.from_≠x.to_):∀(suf pre:List Sp) (s:BS),ls=pre++suf→Rv ls r pre s→Rv ls r ls (suf.foldl (relax r) s):=by
 intro suf
 induction suf with
 | nil=>intro pre s h hs;rw [List.append_nil] at h;subst h;exact hs
 | cons x suf ih =>
  intro pre s h hs
  have hx:x∈ls:=by rw [h];simp
  exact ih (pre++[x]) _ (by simp [h]) (hs.step hr hx (hne x hx))


structure Bv (ls:List Sp) (r:Nat) (s:BS):Prop where
 iv:Iv ls s
 top:∀v,s.t v≤r
 old:∀x∈ls,s.t x.from_<r→s.d x.to_≤s.d x.from_+x.most
theorem Bv.next {ls:List Sp} {r:Nat} (hne:∀x∈ls,x.from_≠x.to_) {s:BS} (h:Bv ls r s):Rv ls (r+1) ls (rnd (r+1) ls s):=by
 refine Rv.fold (by omega) hne ls [] _ rfl ⟨⟨h.iv.pin,h.iv.le,h.iv.lt,h.iv.tt,h.iv.cl,h.iv.pos,h.iv.inj⟩,fun v=>?_,fun x hx hlt=>h.old x hx (by dsimp only at hlt;omega),fun x hx=>by simp at hx,.inl ⟨rfl,fun v=>?_⟩⟩
 ·have:=h.top v;simp only;omega
 ·have:=h.top v;simp only;omega
theorem Rv.bv {ls:List Sp} {r:Nat} {s:BS} (h:Rv ls r ls s):Bv ls r s:=⟨h.iv,h.top,h.new⟩

theorem Rv.still {ls:List Sp} {r:Nat} {s:BS} (h:Rv ls r ls s) (hl:s.last = -1) (hn:∀x∈ls,x.to_ ≠ -1):∀x∈ls,s.d x.to_≤s.d x.from_+x.most:=by
 rcases h.lst with ⟨_,h1⟩|⟨_,x,hx,h1⟩
 ·exact fun x hx=>h.new x hx (h1 _)
 ·exact absurd (h1.trans hl) (hn x hx)


def prev (s:BS) (v:Int):Int:=(s.p v).from_
def back (s:BS):Nat→Int→Int
 | 0,v=>v
 | n+1,v=>back s n (prev s v)
theorem back_succ (s:BS):∀(n:Nat) (v:Int),back s (n+1) v=prev s (back s n v):=by
 intro n
 induction n with
 | zero=>intro v;rfl
 | succ n ih=>intro v;rw [back,ih,←back]
theorem back_add (s:BS) (m:Nat):∀(n:Nat) (v:Int),back s (n+m) v=back s m (back s n v):=by
 intro n
 induction n with
 | zero=>intro v;rw [Nat.zero_add];rfl
 | succ n ih=>intro v;rw [show n+1+m=(n+m)+1 by omega,back,ih];rfl
theorem back_t {ls:List Sp} {s:BS} (h:Iv ls s) (v:Int):∀n,n<s.t v→s.t v≤s.t (back s n v)+n:=by
 intro n
 induction n with
 | zero=>intro _;exact Nat.le_refl _
 | succ n ih =>
  intro hn
  have h1:=ih (by omega)
  have h2:=h.tt (back s n v) (by omega)
  rw [back_succ]
  unfold prev
  omega

theorem pigeon:∀(m:Nat) (f:Nat→Int),(∀k,k≤m→0≤f k∧f k<m)→∃i j,i<j∧j≤m∧f i=f j:=by
 intro m
 induction m with
 | zero=>intro f h;have:=h 0 (Nat.le_refl _);omega
 | succ m ih =>
  intro f h
  by_cases hx:∃i,i≤m∧f i=f (m+1)
  ·obtain ⟨i,h1,h2⟩:=hx
   exact ⟨i,m+1,by omega,Nat.le_refl _,h2⟩
  ·
   have hne:∀i,i≤m→f i≠f (m+1):=fun i hi e=>hx ⟨i,hi,e⟩
   have hl:=h (m+1) (Nat.le_refl _)
   obtain ⟨i,j,h1,h2,h3⟩:=ih (fun k=>if f k=m then f (m+1) else f k) (fun k hk=>by
    have h1:=h k (by omega)
    have h2:=hne k hk
    split<;>omega)
   refine ⟨i,j,h1,by omega,?_⟩
   have a1:=hne i (by omega)
   have a2:=hne j (by omega)
   split at h3<;>split at h3
   ·omega
   ·exact absurd h3.symm a2
   ·exact absurd h3 a1
   ·exact h3


def wayN (s:BS):Nat→Int→Int
 | 0,_=>0
 | n+1,v=>(s.p v).most+wayN s n (prev s v)
theorem way_le {ls:List Sp} {s:BS} (h:Iv ls s):∀(n:Nat) (v:Int),(∀k,k<n→0<s.t (back s k v))→s.d (back s n v)+wayN s n v≤s.d v:=by
 intro n
 induction n with
 | zero=>intro v _;simp [back,wayN]
 | succ n ih =>
  intro v hv
  have h1:=h.le v (hv 0 (by omega))
  have h2:=ih (prev s v) (fun k hk=>hv (k+1) (by omega))
  rw [back,wayN]
  unfold prev at *
  omega
theorem way_lt {ls:List Sp} {s:BS} (h:Iv ls s) (hne:∀x∈ls,x.from_≠x.to_) {n:Nat} (hn:1≤n) {v:Int} (hv:∀k,k<n→0<s.t (back s k v)) (hc:back s n v=v):wayN s n v<0:=by

 have hex:∃k,k<n∧s.ts (back s k v)<s.ts (prev s (back s k v)):=by
  apply Classical.byContradiction
  intro hno
  have hall:∀k,k<n→s.ts (prev s (back s k v))≤s.ts (back s k v):=fun k hk=>Nat.le_of_not_lt fun hlt=>hno ⟨k,hk,hlt⟩
  have hmono:∀k,k≤n→∀j,j≤k→s.ts (back s k v)≤s.ts (back s j v):=by
   intro k
   induction k with
   | zero =>
    intro _ j hj
    have:j=0:=by omega
    subst this
    exact Nat.le_refl _
   | succ k ih =>
    intro hk j hj
    rcases Nat.lt_or_ge j (k+1) with hlt|hge
    ·have h1:=hall k (by omega)
     rw [←back_succ] at h1
     exact Nat.le_trans h1 (ih (by omega) j (by omega))
    ·have:j=k+1:=by omega
     subst this;exact Nat.le_refl _
  have e1:=hmono n (Nat.le_refl _) 1 hn
  have e2:=hmono 1 hn 0 (by omega)
  rw [hc] at e1
  have e3:s.ts (back s 1 v)=s.ts (back s 0 v):=by simp only [back] at *;omega
  have hp:=(h.pos v).1 (hv 0 (by omega))
  have e4:=h.inj v (prev s v) hp (by simpa [back] using e3.symm)
  have hpin:=h.pin v (hv 0 (by omega))
  exact hne _ hpin.1 (by rw [hpin.2];exact e4.symm)
 obtain ⟨k,hk,hlt⟩:=hex

 have h1:=way_le h k v (fun j hj=>hv j (by omega))
 have h2:=h.lt (back s k v) (hv k hk) hlt
 have h3:=way_le h (n-(k+1)) (back s (k+1) v) (fun j hj=>by rw [←back_add];exact hv _ (by omega))
 rw [←back_add,show k+1+(n-(k+1))=n by omega,hc] at h3
 have hsum:∀(a b:Nat) (v:Int),wayN s (a+b) v=wayN s a v+wayN s b (back s a v):=by
  intro a
  induction a with
  | zero=>intro b v;simp [wayN,back]
  | succ a ih=>intro b v;rw [show a+1+b=(a+b)+1 by omega,wayN,ih,wayN,back];omega
 have e:=hsum k (1+(n-(k+1))) v
 rw [show k+(1+(n-(k+1)))=n by omega,hsum 1] at e
 have e5:wayN s 1 (back s k v)=(s.p (back s k v)).most:=by simp [wayN]
 have e6:back s 1 (back s k v)=back s (k+1) v:=by rw [back_add]
 have e7:s.d (back s (k+1) v)=s.d (s.p (back s k v)).from_:=by rw [back_succ];rfl
 rw [e5,e6] at e
 omega

theorem way_none {ls:List Sp} {s:BS} (h:Iv ls s) {x:Int→Int} (hx:∀y∈ls,x y.to_-x y.from_≤y.most):∀(n:Nat) (v:Int),(∀k,k<n→0<s.t (back s k v))→x v-x (back s n v)≤wayN s n v:=by
 intro n
 induction n with
 | zero=>intro v _;simp [back,wayN]
 | succ n ih =>
  intro v hv
  have h1:=h.pin v (hv 0 (by omega))
  have h2:=hx _ h1.1
  have h3:=ih (prev s v) (fun k hk=>hv (k+1) (by omega))
  rw [back,wayN]
  rw [h1.2] at h2
  unfold prev at *
  omega

theorem comes_round {ls:List Sp} {n:Nat} {s:BS} (h:Rv ls (n+2) ls s) (hl:s.last ≠ -1) (hnode:∀x∈ls,(0≤x.from_∧x.from_≤n)∧0≤x.to_∧x.to_≤n) :
 ∃L,1≤L∧L≤n+1∧(∀k,k≤n+1+L→0<s.t (back s k s.last)∧0≤back s k s.last∧back s k s.last≤n)∧back s L (back s (n+1) s.last)=back s (n+1) s.last:=by
 rcases h.lst with ⟨h1,_⟩|⟨ht,y,hy,hto⟩
 ·exact absurd h1 hl
 have hpos:∀k,k≤n+1→0<s.t (back s k s.last):=by
  intro k hk
  have:=back_t h.iv s.last k (by omega)
  omega
 have hin:∀k,k≤n+1→0≤back s k s.last∧back s k s.last≤n:=by
  intro k hk
  have hp:=h.iv.pin _ (hpos k hk)
  have:=(hnode _ hp.1).2
  rw [hp.2] at this
  exact this
 obtain ⟨i,j,hij,hj,he⟩:=pigeon (n+1) (fun k=>back s k s.last) (fun k hk=>by have:=hin k hk;omega)
 have hper:∀q,back s (j+q) s.last=back s (i+q) s.last:=fun q=>by rw [back_add,back_add];rw [show back s j s.last=back s i s.last from he.symm]
 refine ⟨j-i,by omega,by omega,?_,?_⟩
 ·intro k hk
  by_cases hle:k≤n+1
  ·exact ⟨hpos k hle,hin k hle⟩
  ·have e:=hper (k-j)
   rw [show j+(k-j)=k by omega] at e
   rw [e]
   exact ⟨hpos _ (by omega),hin _ (by omega)⟩
 ·rw [←back_add,show n+1+(j-i)=j+(n+1-i) by omega,hper]
  congr 1
  omega
end Go.Proofs.Ytallnifoeahpiaa
