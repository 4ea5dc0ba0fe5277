/- Lowering sheets together as far as it costs less comes to the least; and, as far as it costs no more, to the lowest of these. -/
import Derived.Test.YtallnifoeahpiaaPY
namespace Go.Proofs.Ytallnifoeahpiaa
open Go Go.Sx
set_option linter.all false


def Opt (c:Cs) (x:List Int):Prop:=P5 c x∧∀y,P5 c y→cost c x≤cost c y

def Le (c:Cs) (x y:List Int):Prop:=∀i,i<c.Sheets.length→x[i]! ≤ y[i]!

theorem set_of {n:Nat} (h1:1≤n) (h5:n≤5) (p:Nat→Bool):∃S:Int,0≤S∧S<2^n∧(∀i,i<n→keep S i = !p i)∧((∃i,i<n∧p i=true)→1≤S):=by
 have key:∀b0 b1 b2 b3 b4:Bool,∃S:Int,0≤S∧S<32∧keep S 0 = !b0∧keep S 1 = !b1∧keep S 2 = !b2∧keep S 3 = !b3∧keep S 4 = !b4∧S=(cond b0 1 0)+(cond b1 2 0)+(cond b2 4 0)+(cond b3 8 0)+(cond b4 16 0):=by
  intro b0 b1 b2 b3 b4
  refine ⟨_,?_,?_,?_,?_,?_,?_,?_,rfl⟩<;>cases b0<;>cases b1<;>cases b2<;>cases b3<;>cases b4<;>decide
 obtain ⟨S,a1,a2,k0,k1,k2,k3,k4,a3⟩:=key (p 0) (decide (1<n)&&p 1) (decide (2<n)&&p 2) (decide (3<n)&&p 3) (decide (4<n)&&p 4)
 have c0:(cond (p 0) 1 0:Int)=0∨(cond (p 0) 1 0:Int)=1:=by cases p 0<;>simp
 refine ⟨S,a1,?_,?_,?_⟩
 ·have:n=1∨n=2∨n=3∨n=4∨n=5:=by omega
  rcases this with h|h|h|h|h<;>subst h<;>simp at a3<;>rw [a3]<;>cases p 0<;>cases p 1<;>cases p 2<;>cases p 3<;>cases p 4<;>decide
 ·intro i hi
  have:i=0∨i=1∨i=2∨i=3∨i=4:=by omega
  rcases this with h|h|h|h|h<;>subst h
  ·exact k0
  ·rw [k1,decide_eq_true hi,Bool.true_and]
  ·rw [k2,decide_eq_true hi,Bool.true_and]
  ·rw [k3,decide_eq_true hi,Bool.true_and]
  ·rw [k4,decide_eq_true hi,Bool.true_and]
 ·rintro ⟨i,hi,hp⟩
  have:i=0∨i=1∨i=2∨i=3∨i=4:=by omega
  have hk:keep S i=false:=by
   rcases this with h|h|h|h|h<;>subst h
   ·rw [k0,hp];rfl
   ·rw [k1,decide_eq_true hi,hp];rfl
   ·rw [k2,decide_eq_true hi,hp];rfl
   ·rw [k3,decide_eq_true hi,hp];rfl
   ·rw [k4,decide_eq_true hi,hp];rfl
  apply Classical.byContradiction
  intro h
  have e:S=0:=by omega
  rw [e,keep0] at hk
  simp at hk

def sum5 (c:Cs) (x:List Int):Int:=sumN c.Sheets.length fun i=>x[i]!
theorem sumN_lt {f g:Nat→Int}:∀{n:Nat},(∀i,i<n→f i≤g i)→(∃i,i<n∧f i<g i)→sumN n f<sumN n g:=by
 intro n
 induction n with
 | zero=>rintro _ ⟨i,h,_⟩;omega
 | succ n ih =>
  rintro h ⟨i,hi,hlt⟩
  have h1:=h n (by omega)
  rw [sumN,sumN]
  by_cases e:i=n
  ·subst e
   have:=sumN_le (n:=i) (fun j hj=>h j (by omega))
   omega
  ·have:=ih (fun j hj=>h j (by omega)) ⟨i,by omega,hlt⟩
   omega

theorem low_pl {c:Cs} (hv:Val c) {x y:List Int} (hx:P5 c x) (hy:P5 c y) {a:Int} (h0:0≤a) (ha:∀i,i<c.Sheets.length→x[i]! ≤ y[i]! + (a+1)) (hex:∃i,i<c.Sheets.length∧x[i]! = y[i]! + (a+1)):∃S,1≤S∧S<sets c∧lowr c x y a=pl c.Sheets.length S x:=by
 have hs:=hv.sheets
 obtain ⟨S,a1,a2,a3,a4⟩:=set_of hs.1 hs.2 (fun i=>decide (x[i]! = y[i]! + (a+1)))
 obtain ⟨i,hi,he⟩:=hex
 refine ⟨S,a4 ⟨i,hi,decide_eq_true he⟩,a2,ext5 mk5_len pl_len fun j hj=>?_⟩
 rw [pl_get hj]
 by_cases h:j<c.Sheets.length
 ·rw [low_get hs.2 h,a3 j h]
  have:=ha j h
  by_cases e:x[j]! = y[j]! + (a+1)
  ·rw [if_pos ⟨h,by rw [decide_eq_true e];rfl⟩];omega
  ·rw [if_neg (by rw [decide_eq_false e];simp)];omega
 ·rw [if_neg (by omega),show (lowr c x y a)[j]! = 0 from mk5_end (by omega)]
  exact (hx.end_ j (by omega)).symm
theorem max_dist {n:Nat} (f:Nat→Int) (h1:1≤n):∃i,i<n∧∀j,j<n→f j≤f i:=by
 induction n with
 | zero=>omega
 | succ n ih =>
  by_cases h:n=0
  ·subst h
   refine ⟨0,by omega,fun j hj=>?_⟩
   have e:j=0:=by omega
   rw [e]
   exact Int.le_refl _
  ·obtain ⟨i,hi,h2⟩:=ih (by omega)
   by_cases hn:f n≤f i
   ·exact ⟨i,by omega,fun j hj=>by
     by_cases e:j=n
     ·subst e;exact hn
     ·exact h2 j (by omega)⟩
   ·exact ⟨n,by omega,fun j hj=>by
     by_cases e:j=n
     ·subst e;exact Int.le_refl _
     ·have:=h2 j (by omega);omega⟩

theorem no_less {c:Cs} (hv:Val c) {x:List Int} (hx:P5 c x) (hno:∀S,1≤S→S<sets c→Fe c 0 (pl c.Sheets.length S x)→cost c x≤cost c (pl c.Sheets.length S x)):∀(m:Nat) (y:List Int),P5 c y→Le c y x→(sum5 c x-sum5 c y).toNat=m→cost c x≤cost c y:=by
 have hs:=hv.sheets
 intro m
 induction m using Nat.strongRecOn with
 | _ m ih =>
  intro y hy hle hm
  obtain ⟨i,hi,hmax⟩:=max_dist (fun i=>x[i]! - y[i]!) hs.1
  by_cases h0:x[i]! - y[i]! ≤ 0
  ·rw [cost_congr (x:=x) (y:=y) (fun j hj=>by have h1:=hmax j hj;have h2:=hle j hj;omega)]
   exact Int.le_refl _
  ·have ha:∀j,j<c.Sheets.length→x[j]! ≤ y[j]! + ((x[i]! - y[i]! - 1)+1):=fun j hj=>by have:=hmax j hj;omega
   have hlow:=hx.low hv hy (a:=x[i]! - y[i]! - 1) (by omega)
   have hupp:=hy.upp hv hx (a:=x[i]! - y[i]! - 1) (by omega)
   have hc:=low_upp hv (x:=x) (y:=y) (a:=x[i]! - y[i]! - 1) (by omega) ha
   obtain ⟨S,s1,s2,s3⟩:=low_pl hv hx hy (a:=x[i]! - y[i]! - 1) (by omega) ha ⟨i,hi,by omega⟩
   have h1:=hno S s1 s2 (by rw [←s3];exact hlow.fe)
   rw [←s3] at h1
   have hge:∀j,j<c.Sheets.length→y[j]! ≤ (uppr c y x (x[i]! - y[i]! - 1))[j]! := fun j hj=>by rw [upp_get hs.2 hj];omega
   have hle2:Le c (uppr c y x (x[i]! - y[i]! - 1)) x:=fun j hj=>by rw [upp_get hs.2 hj];have:=hle j hj;omega
   have hlt:sum5 c y<sum5 c (uppr c y x (x[i]! - y[i]! - 1)):=sumN_lt hge ⟨i,hi,by rw [upp_get hs.2 hi];omega⟩
   have hle3:sum5 c (uppr c y x (x[i]! - y[i]! - 1))≤sum5 c x:=sumN_le hle2
   have h2:=ih _ (by omega) _ hupp hle2 rfl
   omega

theorem best_keeps {c:Cs} (hv:Val c) {x b y:List Int} (hx:P5 c x) (hy:Opt c y) (hle:Le c y x) (hb:BestI c x (sets c) b):P5 c b∧∃z,Opt c z∧Le c z b:=by
 have hs:=hv.sheets
 rcases hb.frm with rfl|⟨S,s1,s2,s3,rfl,s4⟩
 ·exact ⟨hx,y,hy,hle⟩
 ·have hp:=pl_p5 hv hx s3
  have hlow:=hp.low hv hy.1 (a:=0) (Int.le_refl _)
  have hupp:=hp.upp hv hy.1 (a:=0) (Int.le_refl _)
  have hc:=low_upp0 hv (x:=pl c.Sheets.length S x) (y:=y)
  refine ⟨hp,lowr c (pl c.Sheets.length S x) y 0,⟨hlow,fun z hz=>?_⟩,fun i hi=>by rw [low_get hs.2 hi];omega⟩
  have hmin:=hy.2 z hz

  have hub:cost c (pl c.Sheets.length S x)≤cost c (uppr c (pl c.Sheets.length S x) y 0):=by
   obtain ⟨T,t1,t2,t3,t4⟩:=set_of hs.1 hs.2 (fun i => !keep S i&&decide (y[i]! < x[i]!))
   have he:uppr c (pl c.Sheets.length S x) y 0=pl c.Sheets.length T x:=ext5 mk5_len pl_len fun j hj=>by
    rw [pl_get hj]
    by_cases h:j<c.Sheets.length
    ·rw [upp_get hs.2 h,pl_get hj,t3 j h]
     have:=hle j h
     cases hk:keep S j with
     | true=>rw [if_neg (by simp),if_neg (by simp)];omega
     | false =>
      rw [if_pos ⟨h,rfl⟩]
      by_cases hlt:y[j]! < x[j]!
      ·rw [if_pos ⟨h,by rw [decide_eq_true hlt];rfl⟩];omega
      ·rw [if_neg (by rw [decide_eq_false hlt];simp)];omega
    ·rw [if_neg (by omega),show (uppr c (pl c.Sheets.length S x) y 0)[j]! = 0 from mk5_end (by omega)]
     exact (hx.end_ j (by omega)).symm
   by_cases hT:1≤T
   ·rw [he];exact hb.all T hT t2 (by rw [←he];exact hupp.fe)
   ·have hT0:T=0:=by omega
    have:uppr c (pl c.Sheets.length S x) y 0=x:=by
     rw [he,hT0]
     exact ext5 pl_len hx.len fun j hj=>by rw [pl_get hj,if_neg (by rw [keep0];simp)]
    rw [this];omega
  omega

theorem lowest {c:Cs} (hv:Val c) {x y:List Int} (hx:Opt c x) (hno:∀S,1≤S→S<sets c→Fe c 0 (pl c.Sheets.length S x)→cost c (pl c.Sheets.length S x)≠cost c x) (hy:Opt c y):Le c x y:=by
 have hs:=hv.sheets
 intro q hq
 apply Classical.byContradiction
 intro hgt
 have hlow:=hx.1.low hv hy.1 (a:=0) (Int.le_refl _)
 have hupp:=hx.1.upp hv hy.1 (a:=0) (Int.le_refl _)
 have hc:=low_upp0 hv (x:=x) (y:=y)
 have h1:=hx.2 _ hupp
 have h2:=hy.2 _ hx.1
 have h3:=hx.2 _ hy.1

 have hz:Opt c (lowr c x y 0):=⟨hlow,fun u hu=>by have:=hx.2 u hu;omega⟩
 generalize he:lowr c x y 0=z at hz
 have hzx:∀i,i<c.Sheets.length→z[i]! = min x[i]! y[i]! := fun i hi=>by rw [←he,low_get hs.2 hi];omega
 obtain ⟨i,hi,hmax⟩:=max_dist (fun i=>x[i]! - z[i]!) hs.1
 have hpos:1≤x[i]! - z[i]! := by
  have:=hmax q hq
  rw [hzx q hq] at this
  omega
 have ha:∀j,j<c.Sheets.length→x[j]! ≤ z[j]! + ((x[i]! - z[i]! - 1)+1):=fun j hj=>by have:=hmax j hj;omega
 have hl2:=hx.1.low hv hz.1 (a:=x[i]! - z[i]! - 1) (by omega)
 have hu2:=hz.1.upp hv hx.1 (a:=x[i]! - z[i]! - 1) (by omega)
 have hc2:=low_upp hv (x:=x) (y:=z) (a:=x[i]! - z[i]! - 1) (by omega) ha
 obtain ⟨S,s1,s2,s3⟩:=low_pl hv hx.1 hz.1 (a:=x[i]! - z[i]! - 1) (by omega) ha ⟨i,hi,by omega⟩
 have h4:=hx.2 _ hl2
 have h5:=hz.2 _ hu2
 have h6:=hz.2 _ hx.1
 have h7:=hx.2 _ hz.1
 refine hno S s1 s2 (by rw [←s3];exact hl2.fe) ?_
 rw [←s3]
 omega
theorem sum_pl {c:Cs} (hv:Val c) {S:Int} (hS:1≤S∧S<sets c) {x:List Int} (hne:pl c.Sheets.length S x≠x) (hx:P5 c x):sum5 c (pl c.Sheets.length S x)<sum5 c x:=by
 have hs:=hv.sheets
 refine sumN_lt (fun i hi=>by rw [pl_get (by omega)];split<;>omega) ?_
 apply Classical.byContradiction
 intro hno
 refine hne (ext5 pl_len hx.len fun j hj=>?_)
 rw [pl_get hj]
 split
 ·rename_i h
  exact absurd ⟨j,h.1,by rw [pl_get hj,if_pos h];omega⟩ hno
 ·rfl
theorem sum_bound {c:Cs} (hv:Val c) {x:List Int} (hx:P5 c x) : -30≤sum5 c x∧sum5 c x≤30:=by
 have hs:=hv.sheets
 have h:∀n,n≤c.Sheets.length → -(6*(n:Int))≤sumN n (fun i=>x[i]!)∧sumN n (fun i=>x[i]!)≤6*n:=by
  intro n
  induction n with
  | zero=>intro _;simp [sumN]
  | succ n ih =>
   intro hn
   have h1:=ih (by omega)
   have h2:=hx.fe.box n (by omega)
   have h3:=most_ok hv (i:=n) (by omega)
   rw [sumN]
   omega
 have:=h c.Sheets.length (Nat.le_refl _)
 unfold sum5
 omega
end Go.Proofs.Ytallnifoeahpiaa
