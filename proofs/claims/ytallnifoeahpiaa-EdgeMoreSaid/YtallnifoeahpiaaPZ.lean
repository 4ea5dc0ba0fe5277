/- Lowering some sheets together by one: what moves yields, and the best of it. -/
import Derived.Test.YtallnifoeahpiaaPX
import Derived.Test.YtallnifoeahpiaaDEG
namespace Go.Proofs.Ytallnifoeahpiaa
open Go Go.Sx
set_option linter.all false


def pl (m:Nat) (S:Int) (x:List Int):List Int:=(List.range 5).map fun j=>if j<m∧keep S j=false then x[j]! - 1 else x[j]!
theorem pl_len {m:Nat} {S:Int} {x:List Int}:(pl m S x).length=5:=by simp [pl]
theorem pl_get {m:Nat} {S:Int} {x:List Int} {j:Nat} (h:j<5):(pl m S x)[j]! = if j<m∧keep S j=false then x[j]! - 1 else x[j]! := by
 unfold pl
 rw [getElem!_pos _ j (by simpa using h)]
 simp
theorem ext5 {x y:List Int} (hx:x.length=5) (hy:y.length=5) (h:∀j,j<5→x[j]! = y[j]!):x=y:=by
 apply List.ext_getElem (by omega)
 intro i h1 h2
 have:=h i (by omega)
 rw [getElem!_pos x i h1,getElem!_pos y i h2] at this
 exact this
theorem pl_zero {S:Int} {x:List Int} (hx:x.length=5):pl 0 S x=x:=ext5 pl_len hx fun j hj=>by rw [pl_get hj,if_neg (by omega)]
theorem pl_keep {m:Nat} {S:Int} {x:List Int} (h:keep S m=true):pl (m+1) S x=pl m S x:=ext5 pl_len pl_len fun j hj=>by
 rw [pl_get hj,pl_get hj]
 by_cases e:j=m
 ·subst e;rw [if_neg (by rw [h];simp),if_neg (by omega)]
 ·by_cases e2:j<m
  ·simp only [show j<m+1 by omega,e2]
  ·rw [if_neg (by omega),if_neg (by omega)]
theorem pl_low {m:Nat} {S:Int} {x:List Int} (hm:m<5) (h:keep S m=false):(pl m S x).set m (x[m]! - 1)=pl (m+1) S x:=ext5 (by simp [pl_len]) pl_len fun j hj=>by
 rw [get_set (by rw [pl_len];omega) (by rw [pl_len];omega),pl_get hj,pl_get hj]
 by_cases e:m=j
 ·subst e;rw [if_pos rfl,if_pos ⟨by omega,h⟩]
 ·rw [if_neg e]
  by_cases e2:j<m
  ·simp only [show j<m+1 by omega,e2]
  ·rw [if_neg (by omega),if_neg (by omega)]

def canL (c:Cs) (S:Int) (x:List Int) (i:Nat):Prop:=∀j,i≤j→j<c.Sheets.length→keep S j=false → -c.Sheets[j]!.Most≤x[j]! - 1
theorem lower_loop {β:Type} {c:Cs} (hv:Val c) {S:Int} {x:List Int} (hx:x.length=5) (hn:near c x) {L:Nat→Int×List Int→Option (β⊕(List Int⊕List Int))}
 (hL:∀n c9,L (n+1) c9=if (decide (c9.1<(c.Sheets.length:Int))) then ((idx c.Sheets c9.1).bind fun x12=>(need (0≤c9.1)).bind fun x13=>if ((Go.bits .and .i64 (S / 2^min c9.1.toNat 64) 1)==0) then (L n ((w64 (c9.1+1)),c9.2)) else ((need (0≤c9.1∧c9.1<5)).bind fun x15=>(c9.2[0+c9.1.toNat*1]?).bind fun x16=>(need (0≤c9.1∧c9.1<5)).bind fun x17=>(c9.2[0+c9.1.toNat*1]?).bind fun x18=>(need (0≤c9.1∧c9.1<5)).bind fun x19=>((c9.2.set (0+c9.1.toNat*1) (w64 (x16-1)))[0+c9.1.toNat*1]?).bind fun x20=>if (decide (x20<(w64 (0-x12.Most)))) then (some (.inr (.inl (c9.2.set (0+c9.1.toNat*1) (w64 (x16-1)))))) else (L n ((w64 (c9.1+1)),(c9.2.set (0+c9.1.toNat*1) (w64 (x16-1))))))) else (some (.inr (.inr c9.2)))) :
 ∀(m i g:Nat),m+i=c.Sheets.length→m<g→(canL c S x i∧L g ((i:Int),pl i S x)=some (.inr (.inr (pl c.Sheets.length S x))))∨(¬canL c S x i∧∃y,L g ((i:Int),pl i S x)=some (.inr (.inl y))):=by
 have hs:=hv.sheets
 intro m
 induction m with
 | zero =>
  intro i g hm hg
  obtain ⟨g,rfl⟩:∃q,g=q+1:=⟨g-1,by omega⟩
  refine .inl ⟨fun j h1 h2=>by omega,?_⟩
  rw [hL,if_neg (by simp;omega),show i=c.Sheets.length by omega]
 | succ m ih =>
  intro i g hm hg
  obtain ⟨g,rfl⟩:∃q,g=q+1:=⟨g-1,by omega⟩
  have hi:i<c.Sheets.length:=by omega
  have hni:=hn i hi
  have hmo:=most_ok hv hi
  have hnext:=ih (i+1) g (by omega) (by omega)
  rw [hL]
  dsimp only
  rw [if_pos (by simp;omega),idx_nat hi,Option.bind_some,need_true (by omega),Option.bind_some,Int.toNat_natCast,show (Go.bits .and .i64 (S / 2^min i 64) 1==0)=keep S i from rfl]
  cases hk:keep S i with
  | true =>
   rw [if_pos rfl,w64_id (n:=(i:Int)+1) (by omega) (by omega),←pl_keep hk]
   have hc:canL c S x i↔canL c S x (i+1):=⟨fun h j a b=>h j (by omega) b,fun h j a b d=>by
    by_cases e:j=i
    ·subst e;rw [hk] at d;simp at d
    ·exact h j (by omega) b d⟩
   rw [hc]
   exact hnext
  | false =>
   have hp:(pl i S x)[i]! = x[i]! := by rw [pl_get (by omega),if_neg (by omega)]
   have hq:(pl (i+1) S x)[i]! = x[i]! - 1:=by rw [pl_get (by omega),if_pos ⟨by omega,hk⟩]
   have hpl:i<(pl i S x).length:=by rw [pl_len];omega
   rw [if_neg (by simp),need_true (by omega),Option.bind_some,Nat.zero_add,Nat.mul_one,get_some hpl,Option.bind_some,Option.bind_some,Option.bind_some,Option.bind_some,hp,w64_id (n:=x[i]! - 1) (by omega) (by omega),pl_low (by omega) hk,get_some (by rw [pl_len];omega),Option.bind_some,hq,w64_id (n:=0-c.Sheets[i]!.Most) (by omega) (by omega),w64_id (n:=(i:Int)+1) (by omega) (by omega)]
   by_cases hd:x[i]! - 1<0-c.Sheets[i]!.Most
   ·rw [if_pos (decide_eq_true hd)]
    exact .inr ⟨fun h=>by have:=h i (Nat.le_refl _) hi hk;omega,_,rfl⟩
   ·rw [if_neg (by rw [decide_eq_false hd];simp)]
    have hc:canL c S x i↔canL c S x (i+1):=⟨fun h j a b=>h j (by omega) b,fun h j a b d=>by
     by_cases e:j=i
     ·subst e;omega
     ·exact h j (by omega) b d⟩
    rw [hc]
    exact hnext


theorem oddF_neg {c:Cs} {x:List Int}:oddF c x<0↔∀i,i<c.Edges.length→lo c i≤x[c.Edges[i]!.A.toNat]! - x[c.Edges[i]!.B.toNat]! ∧ x[c.Edges[i]!.A.toNat]! - x[c.Edges[i]!.B.toNat]! ≤ hi c i:=by
 unfold oddF
 have key:fstB (fun y => !agB c x y) c.Edges 0=none↔∀i,i<c.Edges.length→lo c i≤x[c.Edges[i]!.A.toNat]! - x[c.Edges[i]!.B.toNat]! ∧ x[c.Edges[i]!.A.toNat]! - x[c.Edges[i]!.B.toNat]! ≤ hi c i:=by
  rw [fstB_none,List.any_eq_false]
  constructor
  ·intro h i hi'
   have:=h _ (mem_get hi')
   simp only [Bool.not_eq_true,Bool.not_eq_false',agB,okN_iff] at this
   exact this
  ·intro h y hy
   obtain ⟨i,hi',rfl⟩:=List.getElem_of_mem hy
   have:=h i hi'
   rw [getElem!_pos c.Edges i hi'] at this
   simp only [Bool.not_eq_true,Bool.not_eq_false',agB,okN_iff]
   unfold lo hi at this
   rw [getElem!_pos c.Edges i hi'] at this
   exact this
 cases hf:fstB (fun y => !agB c x y) c.Edges 0 with
 | none=>exact ⟨fun _=>key.1 hf,fun _=>by simp⟩
 | some j=>exact ⟨fun h=>by simp only at h;omega,fun h=>by rw [key.2 h] at hf;simp at hf⟩
theorem fe_iff {c:Cs} {x:List Int}:Fe c 0 x↔(∀i,i<c.Sheets.length → -c.Sheets[i]!.Most≤x[i]! ∧ x[i]! ≤ c.Sheets[i]!.Most)∧oddF c x<0:=by
 rw [oddF_neg]
 exact ⟨fun h=>⟨h.box,fun i hi=>h.eg i hi (keep0 i)⟩,fun h=>⟨h.1,fun i hi _=>h.2 i hi⟩⟩
theorem pl_fe {c:Cs} (hv:Val c) {S:Int} {x:List Int} (hx:P5 c x):Fe c 0 (pl c.Sheets.length S x)↔canL c S x 0∧oddF c (pl c.Sheets.length S x)<0:=by
 have hs:=hv.sheets
 rw [fe_iff]
 constructor
 ·rintro ⟨h1,h2⟩
  refine ⟨fun j _ hj hk=>?_,h2⟩
  have:=h1 j hj
  rw [pl_get (by omega),if_pos ⟨hj,hk⟩] at this
  exact this.1
 ·rintro ⟨h1,h2⟩
  refine ⟨fun j hj=>?_,h2⟩
  have hb:=hx.fe.box j hj
  rw [pl_get (by omega)]
  split
  ·rename_i h3
   have:=h1 j (by omega) hj h3.2
   omega
  ·exact hb
theorem pl_p5 {c:Cs} (hv:Val c) {S:Int} {x:List Int} (hx:P5 c x) (h:Fe c 0 (pl c.Sheets.length S x)):P5 c (pl c.Sheets.length S x):=by
 refine ⟨pl_len,h,fun i hi=>?_⟩
 by_cases h5:i<5
 ·rw [pl_get h5,if_neg (by omega)];exact hx.end_ i hi
 ·exact get_end (by rw [pl_len];omega)
theorem near_p5 {c:Cs} (hv:Val c) {x:List Int} (hx:P5 c x):near c x:=fun i hi=>by
 have h1:=hx.fe.box i hi
 have:=most_ok hv hi
 omega
theorem near_pl {c:Cs} (hv:Val c) {S:Int} {x:List Int} (hx:P5 c x):near c (pl c.Sheets.length S x):=fun i hi=>by
 have hs:=hv.sheets
 have h1:=hx.fe.box i hi
 have:=most_ok hv hi
 rw [pl_get (by omega)]
 split<;>omega

def sets (c:Cs):Int:=2^c.Sheets.length
theorem sets_eq {c:Cs} (hv:Val c):w64 ((1:Int)*2^min (c.Sheets.length:Int).toNat 64)=sets c∧2≤sets c∧sets c≤32:=by
 have hs:=hv.sheets
 unfold sets
 have:c.Sheets.length=1∨c.Sheets.length=2∨c.Sheets.length=3∨c.Sheets.length=4∨c.Sheets.length=5:=by omega
 rcases this with h|h|h|h|h<;>rw [h]<;>decide


structure BestI (c:Cs) (x:List Int) (s:Int) (b:List Int):Prop where
 len:b.length=5
 frm:b=x∨∃S,1≤S∧S<s∧Fe c 0 (pl c.Sheets.length S x)∧b=pl c.Sheets.length S x∧cost c b<cost c x
 le:cost c b≤cost c x
 all:∀S,1≤S→S<s→Fe c 0 (pl c.Sheets.length S x)→cost c b≤cost c (pl c.Sheets.length S x)
theorem e103L1 {k:Nat} {c:Cs} (hk:40≤k) (hv:Val c) {x:List Int} (hx:P5 c x) (t:Int):∀(r:Nat) (s:Int) (g:Nat) (b:List Int) (m:List (List Int×Int)),1≤s→s+r=sets c→r<g→KeptOk c m→BestI c x s b →
 ∃b' m',F103L1 k t c.Sheets c.Edges (wl c) x g (s,b,m,cost c b)=some (.inr (b',m',cost c b'))∧KeptOk c m'∧BestI c x (sets c) b':=by
 have hs:=hv.sheets
 have hst:=sets_eq hv
 intro r
 induction r with
 | zero =>
  intro s g b m h1 hr hg hm hb
  obtain ⟨g,rfl⟩:∃q,g=q+1:=⟨g-1,by omega⟩
  refine ⟨b,m,?_,hm,?_⟩
  ·rw [F103L1]
   dsimp only
   rw [need_true (by omega),Option.bind_some,hst.1,if_neg (by simp;omega)]
  ·rw [show sets c=s by omega];exact hb
 | succ r ih =>
  intro s g b m h1 hr hg hm hb
  obtain ⟨g,rfl⟩:∃q,g=q+1:=⟨g-1,by omega⟩
  rw [F103L1]
  dsimp only
  rw [need_true (by omega),Option.bind_some,hst.1,if_pos (by simp;omega),cutN5 hx.len,Option.bind_some,need_true hx.len,Option.bind_some,w64_id (n:=s+1) (by omega) (by omega)]
  have hlow:=lower_loop (β:=(List Int)×(List ((List Int)×Int))×Int) hv (S:=s) hx.len (near_p5 hv hx) (L:=F103L2 c.Sheets (s,b,m,cost c b)) (fun n c9=>by rw [F103L2]) c.Sheets.length 0 k (by omega) (by omega)
  rw [pl_zero hx.len] at hlow
  have hskip:¬Fe c 0 (pl c.Sheets.length s x)→BestI c x (s+1) b:=fun hno=>by
   refine ⟨hb.len,?_,hb.le,fun S a1 a2 a3=>?_⟩
   ·rcases hb.frm with h|⟨S,a1,a2,a3⟩
    ·exact .inl h
    ·exact .inr ⟨S,a1,by omega,a3⟩
   ·by_cases e:S=s
    ·subst e;exact absurd a3 hno
    ·exact hb.all S a1 (by omega) a3
  rcases hlow with ⟨hcan,hlow⟩|⟨hcan,y,hlow⟩
  ·have hlow':F103L2 c.Sheets (s,b,m,cost c b) k (0,x)=_:=hlow
   rw [hlow',Option.bind_some]
   simp only [outK]
   have hnp:=near_pl hv (S:=s) hx
   rw [cutN5 pl_len,Option.bind_some,e60 (by omega) hv pl_len hnp,Option.bind_some]
   by_cases ho:oddF c (pl c.Sheets.length s x)<0
   ·have hfe:=(pl_fe hv hx).2 ⟨hcan,ho⟩
    have ht:decide (oddF c (pl c.Sheets.length s x)<0)=true:=decide_eq_true ho
    rw [ht]
    simp only [optG_true,cond_true]
    rw [Option.bind_some]
    obtain ⟨m1,e1,e2⟩:=e63 (k:=k) (by omega) hv pl_len hnp t hm
    have hr88:F88r k (pl c.Sheets.length s x) b t c.Sheets c.Edges (wl c) m (cost c b)=some (if cost c (pl c.Sheets.length s x)<cost c b then (pl c.Sheets.length s x,m1,cost c (pl c.Sheets.length s x)) else (b,m1,cost c b)):=by
     unfold F88r
     rw [need_true pl_len,Option.bind_some,cutN5 pl_len,Option.bind_some,e1,Option.bind_some]
     dsimp only
     by_cases hlt:cost c (pl c.Sheets.length s x)<cost c b
     ·rw [if_pos (decide_eq_true hlt),if_pos hlt,Option.bind_some,need_true pl_len,Option.bind_some,need_true hb.len,Option.bind_some]
     ·rw [if_neg (by rw [decide_eq_false hlt];simp),if_neg hlt]
    rw [hr88,Option.bind_some]
    rw [if_neg (by simp)]
    by_cases hlt:cost c (pl c.Sheets.length s x)<cost c b
    ·rw [if_pos hlt]
     have hle:=hb.le
     exact ih (s+1) g (pl c.Sheets.length s x) m1 (by omega) (by omega) (by omega) e2 ⟨pl_len,.inr ⟨s,h1,by omega,hfe,rfl,by omega⟩,by omega,fun S a1 a2 a3=>by
      by_cases e:S=s
      ·subst e;exact Int.le_refl _
      ·have:=hb.all S a1 (by omega) a3;omega⟩
    ·rw [if_neg hlt]
     refine ih (s+1) g b m1 (by omega) (by omega) (by omega) e2 ⟨hb.len,?_,hb.le,fun S a1 a2 a3=>?_⟩
     ·rcases hb.frm with h|⟨S,a1,a2,a3⟩
      ·exact .inl h
      ·exact .inr ⟨S,a1,by omega,a3⟩
     ·by_cases e:S=s
      ·subst e;omega
      ·exact hb.all S a1 (by omega) a3
   ·have ht:decide (oddF c (pl c.Sheets.length s x)<0)=false:=decide_eq_false ho
    rw [ht]
    simp only [optG_false,cond_false]
    rw [Option.bind_some,Option.bind_some,if_neg (by simp)]
    exact ih (s+1) g b m (by omega) (by omega) (by omega) hm (hskip fun h=>ho ((pl_fe hv hx).1 h).2)
  ·have hlow':F103L2 c.Sheets (s,b,m,cost c b) k (0,x)=_:=hlow
   rw [hlow',Option.bind_some]
   simp only [outK]
   exact ih (s+1) g b m (by omega) (by omega) (by omega) hm (hskip fun h=>hcan ((pl_fe hv hx).1 h).1)
theorem e88 {k:Nat} {c:Cs} (hk:40≤k) (hv:Val c) {x:List Int} (hx:P5 c x) (t:Int) {m:List (List Int×Int)} (hm:KeptOk c m):∃b m',F88 k x t c.Sheets c.Edges (wl c) m x=some (b,cost c b,m')∧KeptOk c m'∧BestI c x (sets c) b:=by
 have hst:=sets_eq hv
 obtain ⟨m1,e1,e2⟩:=e63 (k:=k) (by omega) hv hx.len (near_p5 hv hx) t hm
 obtain ⟨b,m2,h1,h2,h3⟩:=e103L1 hk hv hx t (sets c-1).toNat 1 k x m1 (by omega) (by omega) (by omega) e2 ⟨hx.len,.inl rfl,Int.le_refl _,fun S a1 a2 _=>by omega⟩
 refine ⟨b,m2,?_,h2,h3⟩
 unfold F88 F103
 rw [cutN5 hx.len,Option.bind_some,e1,Option.bind_some]
 dsimp only
 rw [h1,Option.bind_some]
 simp only [outK]
 rw [Option.bind_some,cutN5 h3.len,Option.bind_some,need_true h3.len,Option.bind_some,Option.bind_some]
end Go.Proofs.Ytallnifoeahpiaa
namespace Go.Proofs.Ytallnifoeahpiaa
open Go Go.Sx
set_option linter.all false


def Opt (c:Cs) (x:List Int):Prop:=P5 c x∧∀y,P5 c y→cost c x≤cost c y

def Le (c:Cs) (x y:List Int):Prop:=∀i,i<c.Sheets.length→x[i]! ≤ y[i]!

theorem set_of {n:Nat} (h1:1≤n) (h5:n≤5) (p:Nat→Bool):∃S:Int,0≤S∧S<2^n∧(∀i,i<n→keep S i = !p i)∧((∃i,i<n∧p i=true)→1≤S):=by
 have key:∀b0 b1 b2 b3 b4:Bool,∃S:Int,0≤S∧S<32∧keep S 0 = !b0∧keep S 1 = !b1∧keep S 2 = !b2∧keep S 3 = !b3∧keep S 4 = !b4∧S=(cond b0 1 0)+(cond b1 2 0)+(cond b2 4 0)+(cond b3 8 0)+(cond b4 16 0):=by
  intro b0 b1 b2 b3 b4
  refine ⟨_,?_,?_,?_,?_,?_,?_,?_,rfl⟩<;>cases b0<;>cases b1<;>cases b2<;>cases b3<;>cases b4<;>decide
 obtain ⟨S,a1,a2,k0,k1,k2,k3,k4,a3⟩:=key (p 0) (decide (1<n)&&p 1) (decide (2<n)&&p 2) (decide (3<n)&&p 3) (decide (4<n)&&p 4)
 have c0:(cond (p 0) 1 0:Int)=0∨(cond (p 0) 1 0:Int)=1:=by cases p 0<;>simp
 refine ⟨S,a1,?_,?_,?_⟩
 ·have:n=1∨n=2∨n=3∨n=4∨n=5:=by omega
  rcases this with h|h|h|h|h<;>subst h<;>simp at a3<;>rw [a3]<;>cases p 0<;>cases p 1<;>cases p 2<;>cases p 3<;>cases p 4<;>decide
 ·intro i hi
  have:i=0∨i=1∨i=2∨i=3∨i=4:=by omega
  rcases this with h|h|h|h|h<;>subst h
  ·exact k0
  ·rw [k1,decide_eq_true hi,Bool.true_and]
  ·rw [k2,decide_eq_true hi,Bool.true_and]
  ·rw [k3,decide_eq_true hi,Bool.true_and]
  ·rw [k4,decide_eq_true hi,Bool.true_and]
 ·rintro ⟨i,hi,hp⟩
  have:i=0∨i=1∨i=2∨i=3∨i=4:=by omega
  have hk:keep S i=false:=by
   rcases this with h|h|h|h|h<;>subst h
   ·rw [k0,hp];rfl
   ·rw [k1,decide_eq_true hi,hp];rfl
   ·rw [k2,decide_eq_true hi,hp];rfl
   ·rw [k3,decide_eq_true hi,hp];rfl
   ·rw [k4,decide_eq_true hi,hp];rfl
  apply Classical.byContradiction
  intro h
  have e:S=0:=by omega
  rw [e,keep0] at hk
  simp at hk

def sum5 (c:Cs) (x:List Int):Int:=sumN c.Sheets.length fun i=>x[i]!
theorem sumN_lt {f g:Nat→Int}:∀{n:Nat},(∀i,i<n→f i≤g i)→(∃i,i<n∧f i<g i)→sumN n f<sumN n g:=by
 intro n
 induction n with
 | zero=>rintro _ ⟨i,h,_⟩;omega
 | succ n ih =>
  rintro h ⟨i,hi,hlt⟩
  have h1:=h n (by omega)
  rw [sumN,sumN]
  by_cases e:i=n
  ·subst e
   have:=sumN_le (n:=i) (fun j hj=>h j (by omega))
   omega
  ·have:=ih (fun j hj=>h j (by omega)) ⟨i,by omega,hlt⟩
   omega

theorem low_pl {c:Cs} (hv:Val c) {x y:List Int} (hx:P5 c x) (hy:P5 c y) {a:Int} (h0:0≤a) (ha:∀i,i<c.Sheets.length→x[i]! ≤ y[i]! + (a+1)) (hex:∃i,i<c.Sheets.length∧x[i]! = y[i]! + (a+1)):∃S,1≤S∧S<sets c∧lowr c x y a=pl c.Sheets.length S x:=by
 have hs:=hv.sheets
 obtain ⟨S,a1,a2,a3,a4⟩:=set_of hs.1 hs.2 (fun i=>decide (x[i]! = y[i]! + (a+1)))
 obtain ⟨i,hi,he⟩:=hex
 refine ⟨S,a4 ⟨i,hi,decide_eq_true he⟩,a2,ext5 mk5_len pl_len fun j hj=>?_⟩
 rw [pl_get hj]
 by_cases h:j<c.Sheets.length
 ·rw [low_get hs.2 h,a3 j h]
  have:=ha j h
  by_cases e:x[j]! = y[j]! + (a+1)
  ·rw [if_pos ⟨h,by rw [decide_eq_true e];rfl⟩];omega
  ·rw [if_neg (by rw [decide_eq_false e];simp)];omega
 ·rw [if_neg (by omega),show (lowr c x y a)[j]! = 0 from mk5_end (by omega)]
  exact (hx.end_ j (by omega)).symm
theorem max_dist {n:Nat} (f:Nat→Int) (h1:1≤n):∃i,i<n∧∀j,j<n→f j≤f i:=by
 induction n with
 | zero=>omega
 | succ n ih =>
  by_cases h:n=0
  ·subst h
   refine ⟨0,by omega,fun j hj=>?_⟩
   have e:j=0:=by omega
   rw [e]
   exact Int.le_refl _
  ·obtain ⟨i,hi,h2⟩:=ih (by omega)
   by_cases hn:f n≤f i
   ·exact ⟨i,by omega,fun j hj=>by
     by_cases e:j=n
     ·subst e;exact hn
     ·exact h2 j (by omega)⟩
   ·exact ⟨n,by omega,fun j hj=>by
     by_cases e:j=n
     ·subst e;exact Int.le_refl _
     ·have:=h2 j (by omega);omega⟩

theorem no_less {c:Cs} (hv:Val c) {x:List Int} (hx:P5 c x) (hno:∀S,1≤S→S<sets c→Fe c 0 (pl c.Sheets.length S x)→cost c x≤cost c (pl c.Sheets.length S x)):∀(m:Nat) (y:List Int),P5 c y→Le c y x→(sum5 c x-sum5 c y).toNat=m→cost c x≤cost c y:=by
 have hs:=hv.sheets
 intro m
 induction m using Nat.strongRecOn with
 | _ m ih =>
  intro y hy hle hm
  obtain ⟨i,hi,hmax⟩:=max_dist (fun i=>x[i]! - y[i]!) hs.1
  by_cases h0:x[i]! - y[i]! ≤ 0
  ·rw [cost_congr (x:=x) (y:=y) (fun j hj=>by have h1:=hmax j hj;have h2:=hle j hj;omega)]
   exact Int.le_refl _
  ·have ha:∀j,j<c.Sheets.length→x[j]! ≤ y[j]! + ((x[i]! - y[i]! - 1)+1):=fun j hj=>by have:=hmax j hj;omega
   have hlow:=hx.low hv hy (a:=x[i]! - y[i]! - 1) (by omega)
   have hupp:=hy.upp hv hx (a:=x[i]! - y[i]! - 1) (by omega)
   have hc:=low_upp hv (x:=x) (y:=y) (a:=x[i]! - y[i]! - 1) (by omega) ha
   obtain ⟨S,s1,s2,s3⟩:=low_pl hv hx hy (a:=x[i]! - y[i]! - 1) (by omega) ha ⟨i,hi,by omega⟩
   have h1:=hno S s1 s2 (by rw [←s3];exact hlow.fe)
   rw [←s3] at h1
   have hge:∀j,j<c.Sheets.length→y[j]! ≤ (uppr c y x (x[i]! - y[i]! - 1))[j]! := fun j hj=>by rw [upp_get hs.2 hj];omega
   have hle2:Le c (uppr c y x (x[i]! - y[i]! - 1)) x:=fun j hj=>by rw [upp_get hs.2 hj];have:=hle j hj;omega
   have hlt:sum5 c y<sum5 c (uppr c y x (x[i]! - y[i]! - 1)):=sumN_lt hge ⟨i,hi,by rw [upp_get hs.2 hi];omega⟩
   have hle3:sum5 c (uppr c y x (x[i]! - y[i]! - 1))≤sum5 c x:=sumN_le hle2
   have h2:=ih _ (by omega) _ hupp hle2 rfl
   omega

theorem best_keeps {c:Cs} (hv:Val c) {x b y:List Int} (hx:P5 c x) (hy:Opt c y) (hle:Le c y x) (hb:BestI c x (sets c) b):P5 c b∧∃z,Opt c z∧Le c z b:=by
 have hs:=hv.sheets
 rcases hb.frm with rfl|⟨S,s1,s2,s3,rfl,s4⟩
 ·exact ⟨hx,y,hy,hle⟩
 ·have hp:=pl_p5 hv hx s3
  have hlow:=hp.low hv hy.1 (a:=0) (Int.le_refl _)
  have hupp:=hp.upp hv hy.1 (a:=0) (Int.le_refl _)
  have hc:=low_upp0 hv (x:=pl c.Sheets.length S x) (y:=y)
  refine ⟨hp,lowr c (pl c.Sheets.length S x) y 0,⟨hlow,fun z hz=>?_⟩,fun i hi=>by rw [low_get hs.2 hi];omega⟩
  have hmin:=hy.2 z hz

  have hub:cost c (pl c.Sheets.length S x)≤cost c (uppr c (pl c.Sheets.length S x) y 0):=by
   obtain ⟨T,t1,t2,t3,t4⟩:=set_of hs.1 hs.2 (fun i => !keep S i&&decide (y[i]! < x[i]!))
   have he:uppr c (pl c.Sheets.length S x) y 0=pl c.Sheets.length T x:=ext5 mk5_len pl_len fun j hj=>by
    rw [pl_get hj]
    by_cases h:j<c.Sheets.length
    ·rw [upp_get hs.2 h,pl_get hj,t3 j h]
     have:=hle j h
     cases hk:keep S j with
     | true=>rw [if_neg (by simp),if_neg (by simp)];omega
     | false =>
      rw [if_pos ⟨h,rfl⟩]
      by_cases hlt:y[j]! < x[j]!
      ·rw [if_pos ⟨h,by rw [decide_eq_true hlt];rfl⟩];omega
      ·rw [if_neg (by rw [decide_eq_false hlt];simp)];omega
    ·rw [if_neg (by omega),show (uppr c (pl c.Sheets.length S x) y 0)[j]! = 0 from mk5_end (by omega)]
     exact (hx.end_ j (by omega)).symm
   by_cases hT:1≤T
   ·rw [he];exact hb.all T hT t2 (by rw [←he];exact hupp.fe)
   ·have hT0:T=0:=by omega
    have:uppr c (pl c.Sheets.length S x) y 0=x:=by
     rw [he,hT0]
     exact ext5 pl_len hx.len fun j hj=>by rw [pl_get hj,if_neg (by rw [keep0];simp)]
    rw [this];omega
  omega

theorem lowest {c:Cs} (hv:Val c) {x y:List Int} (hx:Opt c x) (hno:∀S,1≤S→S<sets c→Fe c 0 (pl c.Sheets.length S x)→cost c (pl c.Sheets.length S x)≠cost c x) (hy:Opt c y):Le c x y:=by
 have hs:=hv.sheets
 intro q hq
 apply Classical.byContradiction
 intro hgt
 have hlow:=hx.1.low hv hy.1 (a:=0) (Int.le_refl _)
 have hupp:=hx.1.upp hv hy.1 (a:=0) (Int.le_refl _)
 have hc:=low_upp0 hv (x:=x) (y:=y)
 have h1:=hx.2 _ hupp
 have h2:=hy.2 _ hx.1
 have h3:=hx.2 _ hy.1

 have hz:Opt c (lowr c x y 0):=⟨hlow,fun u hu=>by have:=hx.2 u hu;omega⟩
 generalize he:lowr c x y 0=z at hz
 have hzx:∀i,i<c.Sheets.length→z[i]! = min x[i]! y[i]! := fun i hi=>by rw [←he,low_get hs.2 hi];omega
 obtain ⟨i,hi,hmax⟩:=max_dist (fun i=>x[i]! - z[i]!) hs.1
 have hpos:1≤x[i]! - z[i]! := by
  have:=hmax q hq
  rw [hzx q hq] at this
  omega
 have ha:∀j,j<c.Sheets.length→x[j]! ≤ z[j]! + ((x[i]! - z[i]! - 1)+1):=fun j hj=>by have:=hmax j hj;omega
 have hl2:=hx.1.low hv hz.1 (a:=x[i]! - z[i]! - 1) (by omega)
 have hu2:=hz.1.upp hv hx.1 (a:=x[i]! - z[i]! - 1) (by omega)
 have hc2:=low_upp hv (x:=x) (y:=z) (a:=x[i]! - z[i]! - 1) (by omega) ha
 obtain ⟨S,s1,s2,s3⟩:=low_pl hv hx.1 hz.1 (a:=x[i]! - z[i]! - 1) (by omega) ha ⟨i,hi,by omega⟩
 have h4:=hx.2 _ hl2
 have h5:=hz.2 _ hu2
 have h6:=hz.2 _ hx.1
 have h7:=hx.2 _ hz.1
 refine hno S s1 s2 (by rw [←s3];exact hl2.fe) ?_
 rw [←s3]
 omega
theorem sum_pl {c:Cs} (hv:Val c) {S:Int} (hS:1≤S∧S<sets c) {x:List Int} (hne:pl c.Sheets.length S x≠x) (hx:P5 c x):sum5 c (pl c.Sheets.length S x)<sum5 c x:=by
 have hs:=hv.sheets
 refine sumN_lt (fun i hi=>by rw [pl_get (by omega)];split<;>omega) ?_
 apply Classical.byContradiction
 intro hno
 refine hne (ext5 pl_len hx.len fun j hj=>?_)
 rw [pl_get hj]
 split
 ·rename_i h
  exact absurd ⟨j,h.1,by rw [pl_get hj,if_pos h];omega⟩ hno
 ·rfl
theorem sum_bound {c:Cs} (hv:Val c) {x:List Int} (hx:P5 c x) : -30≤sum5 c x∧sum5 c x≤30:=by
 have hs:=hv.sheets
 have h:∀n,n≤c.Sheets.length → -(6*(n:Int))≤sumN n (fun i=>x[i]!)∧sumN n (fun i=>x[i]!)≤6*n:=by
  intro n
  induction n with
  | zero=>intro _;simp [sumN]
  | succ n ih =>
   intro hn
   have h1:=ih (by omega)
   have h2:=hx.fe.box n (by omega)
   have h3:=most_ok hv (i:=n) (by omega)
   rw [sumN]
   omega
 have:=h c.Sheets.length (Nat.le_refl _)
 unfold sum5
 omega
end Go.Proofs.Ytallnifoeahpiaa
