/- A matrix of bounds: what binding two points comes to. -/
import Derived.Test.YtkcgfceihpampaaGreatDoorDB
import Derived.Test.YtkcgfceihpampaaGreatDoorDD
import Derived.KernelRfl
namespace Go.Proofs.YtkcgfceihpampaaGreatDoor
open Go Go.Sx
set_option linter.all false
set_option maxRecDepth 100000


def M (b:List Int) (i k:Nat):Int:=b.getD (i*9+k) 0
theorem getM {b:List Int} (hb:b.length=81) {i k:Nat} (hi:i<9) (hk:k<9):b[0+i*9+k*1]? = some (M b i k):=by
 rw [Zw,Yw,M,Zv,Zd (by omega)];rfl
theorem setM {b:List Int} (hb:b.length=81) {i k p q:Nat} (hi:i<9) (hk:k<9) (hp:p<9) (hq:q<9) (v:Int):M (b.set (0+i*9+k*1) v) p q=if p=i∧q=k then v else M b p q:=by
 unfold M;rw [Zv,Zn,Zw,Yw];by_cases h:p=i∧q=k
 ·obtain ⟨rfl,rfl⟩:=h;rw [if_pos rfl,if_pos (by omega),if_pos ⟨rfl,rfl⟩];rfl
 ·rw [if_neg (by omega),if_neg h,Zv]

def Bd (b:List Int):Prop:=∀i k,i<9→k<9 → -1000000≤M b i k∧M b i k≤1000000

def newM (b:List Int) (f t:Nat) (m:Int) (p q:Nat):Int:=min (M b p q) (M b p f+m+M b t q)

def upto (b0:List Int) (f t:Nat) (m:Int) (i k:Nat) (b:List Int):Prop :=
 b.length=81∧∀p q,p<9→q<9→M b p q=if p<i∨(p=i∧q<k) then newM b0 f t m p q else M b0 p q

section
variable {b0:List Int} {f t:Nat} {m:Int} (hf:f<9) (ht:t<9) (hbd:Bd b0) (hm : -1000000≤m∧m≤1000000) (h0:0≤m+M b0 t f)
include hf ht hbd hm h0

theorem inner_ok {i:Nat} (hi:i<9) (c10:Int×List Int) (hc:c10.1=i):∀n (s:Int×List Int),(∃k:Nat,s.1=k∧k≤9∧upto b0 f t m i k s.2)→9-s.1.toNat<n →
 Ok (F114L2 f t m c10 n s) (fun o=>∃b,o = .inr b∧upto b0 f t m (i+1) 0 b):=by
 refine ok_loop _ _ _ ?_;rintro n ⟨k',b⟩ ⟨k,hk,hk9,hb,hu⟩ ih;simp only at hk hb hu;subst hk;rw [F114L2];simp only;by_cases hlt:k<9
 ·rw [if_pos (by simp;omega)];have hif:(0:Int)≤(i:Int)∧(i:Int)<9:=by omega
  have hkf:(0:Int)≤(k:Int)∧(k:Int)<9:=by omega
  have hff:(0:Int)≤(f:Int)∧(f:Int)<9:=by omega
  have htf:(0:Int)≤(t:Int)∧(t:Int)<9:=by omega
  simp only [hc,need_true hif,need_true hkf,need_true hff,need_true htf,Za,Int.toNat_natCast,getM hb hi hlt,getM hb hi hf,getM hb ht hlt]
  have e1:M b i f=M b0 i f:=by
   rw [hu i f hi hf];split
   ·unfold newM;omega
   ·rfl
  have e2:M b t k=M b0 t k:=by
   rw [hu t k ht hlt];split
   ·unfold newM;omega
   ·rfl
  have e3:M b i k=M b0 i k:=by
   rw [hu i k hi hlt,if_neg (by omega)]
  have b1:=hbd i f hi hf;have b2:=hbd t k ht hlt;have b3:=hbd i k hi hlt;rw [e1,e2,e3,w64_id (n:=M b0 i f+m) (by omega) (by omega),w64_id (by omega) (by omega),w64_id (by omega) (by omega)]
  have hval:(if M b0 i f+m+M b0 t k<M b0 i k then M b0 i f+m+M b0 t k else M b0 i k)=newM b0 f t m i k:=by
   unfold newM;split<;>omega
  rw [hval];refine ih _ ⟨k+1,by simp,by omega,by simpa using hb,fun p q hp hq=>?_⟩ (by simp only;omega);rw [setM hb hi hlt hp hq];split
  ·rename_i e;obtain ⟨rfl,rfl⟩:=e;rw [if_pos (by omega)]
  ·rename_i e;rw [hu p q hp hq];by_cases hpq:p<i∨(p=i∧q<k)
   ·rw [if_pos hpq,if_pos (by omega)]
   ·rw [if_neg hpq,if_neg (by omega)]
 ·rw [if_neg (by simp;omega),ok_some];refine ⟨b,rfl,hb,fun p q hp hq=>?_⟩;rw [hu p q hp hq];by_cases hpq:p<i∨(p=i∧q<k)
  ·rw [if_pos hpq,if_pos (by omega)]
  ·rw [if_neg hpq,if_neg (by omega)]

theorem outer_ok {fuel:Nat} (hfu:9<fuel):∀n (s:Int×List Int),(∃i:Nat,s.1=i∧i≤9∧upto b0 f t m i 0 s.2)→9-s.1.toNat<n →
 Ok (F114L1 fuel f t m n s) (fun o=>∃b,o = .inr b∧upto b0 f t m 9 0 b):=by
 refine ok_loop _ _ _ ?_;rintro n ⟨i',b⟩ ⟨i,hi,hi9,hu⟩ ih;simp only at hi hu;subst hi;rw [F114L1];simp only;by_cases hlt:i<9
 ·rw [if_pos (by simp;omega),ok_bind];refine (inner_ok hf ht hbd hm h0 hlt _ rfl fuel (0,b) ⟨0,rfl,by omega,hu⟩ (by simp;omega)).mono ?_;rintro o ⟨b',rfl,hu'⟩;rw [outK_inr,w64_id (by omega) (by omega)];exact ih _ ⟨i+1,by simp,by omega,hu'⟩ (by simp only;omega)
 ·rw [if_neg (by simp;omega),ok_some];have:i=9:=by omega
  subst this;exact ⟨b,rfl,hu⟩
end

theorem bind_ok {fuel:Nat} (hfu:9<fuel) {b:List Int} {f t:Nat} {m:Int} (hf:f<9) (ht:t<9) (hb:b.length=81) (hbd:Bd b) (hm : -1000000≤m∧m≤1000000) :
 Ok (F114 fuel f t m b) (fun r=>r.2.length=81∧(M b f t≤m→r=(true,b))∧(m<M b f t→m+M b t f<0→r=(false,b)) ∧
  (m<M b f t→0≤m+M b t f→r.1=true∧∀p q,p<9→q<9→M r.2 p q=newM b f t m p q)):=by
 have hff:(0:Int)≤(f:Int)∧(f:Int)<9:=by omega
 have htf:(0:Int)≤(t:Int)∧(t:Int)<9:=by omega
 unfold F114;simp only [need_true hff,need_true htf,Za,Int.toNat_natCast,getM hb hf ht,getM hb ht hf];have b1:=hbd t f ht hf;by_cases h1:m≥M b f t
 ·rw [if_pos (by simpa using h1),ok_some];exact ⟨hb,fun _=>rfl,fun h=>by omega,fun h=>by omega⟩
 ·rw [if_neg (by simpa using h1),w64_id (by omega) (by omega)];by_cases h2:m+M b t f<0
  ·rw [if_pos (by simpa using h2),ok_some];exact ⟨hb,fun h=>by omega,fun _ _=>rfl,fun _ h=>by omega⟩
  ·rw [if_neg (by simpa using h2),ok_bind];refine (outer_ok hf ht hbd hm (by omega) hfu fuel (0,b) ⟨0,rfl,by omega,hb,fun p q hp hq=>by rw [if_neg (by omega)]⟩ (by simp;omega)).mono ?_;rintro o ⟨b',rfl,hl,hu⟩;rw [outK_inr,ok_some];exact ⟨hl,fun h=>by omega,fun _ h=>by omega,fun _ _=>⟨rfl,fun p q hp hq=>by rw [hu p q hp hq,if_pos (by omega)]⟩⟩
end Go.Proofs.YtkcgfceihpampaaGreatDoor
namespace Go.Proofs.YtkcgfceihpampaaGreatDoor
open Go Go.Sx
set_option linter.all false
set_option maxRecDepth 100000


structure Cl (b:List Int):Prop where
 len:b.length=81
 diag:∀i,i<9→M b i i=0
 tri:∀i j k,i<9→j<9→k<9→M b i k≤M b i j+M b j k
 ub:∀i k,i<9→k<9→M b i k≤9000

def Sat (x:Nat→Int) (b:List Int):Prop:=∀i k,i<9→k<9→x k-x i≤M b i k
theorem Cl.bd {b:List Int} (h:Cl b):Bd b:=fun i k hi hk=>by
 have h1:=h.ub i k hi hk;have h2:=h.ub k i hk hi;have h3:=h.tri i k i hi hk hi;have h4:=h.diag i hi;omega
theorem Cl.low {b:List Int} (h:Cl b) {i k:Nat} (hi:i<9) (hk:k<9) : -9000≤M b i k:=by
 have h2:=h.ub k i hk hi;have h3:=h.tri i k i hi hk hi;have h4:=h.diag i hi;omega

theorem Cl.top {b:List Int} (h:Cl b) {j:Nat} (hj:j<9):Sat (fun k=>M b j k) b:=fun i k hi hk=>by
 have:=h.tri j i k hj hi hk;simp only;omega
theorem Cl.bot {b:List Int} (h:Cl b) {j:Nat} (hj:j<9):Sat (fun k => -M b k j) b:=fun i k hi hk=>by
 have:=h.tri i k j hi hk hj;simp only;omega


def BindR (b:List Int) (f t:Nat) (m:Int) (r:Bool×List Int):Prop :=
 r.2.length=81∧(r.1=true→Cl r.2∧∀x,Sat x r.2↔Sat x b∧x t-x f≤m)∧(r.1=false→∀x,Sat x b→¬x t-x f≤m)
theorem bind_cl {fuel:Nat} (hfu:9<fuel) {b:List Int} {f t:Nat} {m:Int} (hf:f<9) (ht:t<9) (hb:Cl b) (hm : -1000000≤m∧m≤1000000):Ok (F114 fuel f t m b) (BindR b f t m):=by
 refine (bind_ok hfu hf ht hb.len hb.bd hm).mono ?_;rintro ⟨is,b'⟩ ⟨h1,h2,h3,h4⟩;simp only at h1 h2 h3 h4;by_cases g1:M b f t≤m
 ·have:=h2 g1;simp only [Ze] at this;obtain ⟨rfl,rfl⟩:=this;refine ⟨h1,fun _=>⟨hb,fun x=>⟨fun hx=>⟨hx,?_⟩,fun hx=>hx.1⟩⟩,fun h=>by simp at h⟩;have:x t-x f≤M b' f t:=hx f t hf ht;omega
 ·by_cases g2:m+M b t f<0
  ·have:=h3 (by omega) g2;simp only [Ze] at this;obtain ⟨rfl,rfl⟩:=this;refine ⟨h1,fun h=>by simp at h,fun _ x hx hle=>?_⟩;have:=hx t f ht hf;omega
  ·obtain ⟨rfl,h5⟩:=h4 (by omega) (by omega);refine ⟨h1,fun _=>⟨⟨h1,fun i hi=>?_,fun i j k hi hj hk=>?_,fun i k hi hk=>?_⟩,fun x=>⟨fun hx=>⟨fun i k hi hk=>?_,?_⟩,fun ⟨hx,hle⟩ i k hi hk=>?_⟩⟩,fun h=>by simp at h⟩
   ·rw [h5 i i hi hi];have:=hb.tri t i f ht hi hf;have:=hb.diag i hi;unfold newM;omega
   ·rw [h5 i k hi hk,h5 i j hi hj,h5 j k hj hk];have:=hb.tri i j k hi hj hk;have:=hb.tri i j f hi hj hf;have:=hb.tri t j k ht hj hk;have:=hb.tri t j f ht hj hf;unfold newM;omega
   ·rw [h5 i k hi hk];have:=hb.ub i k hi hk;unfold newM;omega
   ·have:=hx i k hi hk;simp only at this;rw [h5 i k hi hk] at this;unfold newM at this;omega
   ·have:=hx f t hf ht;simp only at this;rw [h5 f t hf ht] at this;have:=hb.diag f hf;have:=hb.diag t ht;unfold newM at *;omega
   ·show _≤M b' i k;rw [h5 i k hi hk];have:=hx i k hi hk;have:=hx i f hi hf;have:=hx t k ht hk;unfold newM;omega


def oth (x:S_api_ShNote):Nat:=if x.Kind=1∨x.Kind=2 then 8 else x.B.toNat
def nlo (iv:Int) (x:S_api_ShNote):Int:=if x.Kind=2 then x.By.Lo*iv else x.By.Lo
def nhi (iv:Int) (x:S_api_ShNote):Int:=if x.Kind=2 then x.By.Hi*iv else x.By.Hi

structure Nok (iv:Int) (x:S_api_ShNote):Prop where
 kind:x.Kind=1∨x.Kind=2∨x.Kind=3∨x.Kind=4
 a:0≤x.A∧x.A<8
 b:0≤x.B∧x.B<8
 lo : -9000≤nlo iv x∧nlo iv x≤9000
 hi : -9000≤nhi iv x∧nhi iv x≤9000

def Holds (iv:Int) (x:S_api_ShNote) (w:Int) (h:Nat→Int):Prop:=nlo iv x-w≤h x.A.toNat-h (oth x)∧h x.A.toNat-h (oth x)≤nhi iv x+w
theorem Nok.oth {iv:Int} {x:S_api_ShNote} (h:Nok iv x):oth x<9:=by
 unfold Go.Proofs.YtkcgfceihpampaaGreatDoor.oth;have:=h.b;split<;>omega
theorem cutN_all {l:List Int} (h:l.length=81):cutN l 0 81=some l:=by
 unfold cutN;rw [if_pos (by omega),List.drop_zero,ZH (by omega)]


def WithR (iv:Int) (x:S_api_ShNote) (w:Int) (b:List Int) (r:List Int×Bool):Prop :=
 r.1.length=81∧(r.2=true→Cl r.1∧∀h,Sat h r.1↔Sat h b∧Holds iv x w h)∧(r.2=false→∀h,Sat h b→¬Holds iv x w h)

theorem f178 {iv:Int} {x:S_api_ShNote} (h:Nok iv x):∃k,F178 x=some (some k,x)∧(x.Kind=1∧k=287∨x.Kind=2∧k=288∨x.Kind=3∧k=289∨x.Kind=4∧k=290):=by
 unfold F178;rcases h.kind with e|e|e|e
 ·exact ⟨287,by simp [e],.inl ⟨e,rfl⟩⟩
 ·exact ⟨288,by simp [e],.inr (.inl ⟨e,rfl⟩)⟩
 ·exact ⟨289,by simp [e],.inr (.inr (.inl ⟨e,rfl⟩))⟩
 ·exact ⟨290,by simp [e],.inr (.inr (.inr ⟨e,rfl⟩))⟩

theorem round_ok {fuel:Nat} (hfu:9<fuel) {b b2:List Int} {b3:Bool} {f t:Nat} {m:Int} (hf:f<9) (ht:t<9) (hb:Cl b) (h2:b2.length=81) (hm : -1000000≤m∧m≤1000000) :
 Ok (F70r fuel f t m b b2 b3) (fun r=>BindR b f t m (r.1,r.2.1)∧r.2.2.1.length=81∧(r.1=false→r.2.2.2=false)):=by
 unfold F70r;rw [ok_bind];refine (bind_cl hfu hf ht hb hm).mono ?_;rintro ⟨is,b'⟩ hr;have hl:b'.length=81:=hr.1;cases is with
 | true=>simp only [Zt,Zk,if_false];rw [ok_some];exact ⟨hr,h2,fun h=>by simp at h⟩
 | false =>
  simp only [Zs,if_true,cutN_all hl,need_true hl,need_true h2,Za];rw [ok_some];exact ⟨hr,hl,fun _=>rfl⟩

theorem with_ok {fuel:Nat} (hfu:9<fuel) {s:S_sheet_sheet} {b:List Int} {i:Nat} {w:Int} (hi:i<s.ShSheet.Notes.length) (hn:Nok s.ShSheet.Interval s.ShSheet.Notes[i]!) (hiv:1≤s.ShSheet.Interval∧s.ShSheet.Interval≤1000) (hw:0≤w∧w≤9000) (hb:Cl b) :
 Ok (F70 fuel s b i w) (WithR s.ShSheet.Interval s.ShSheet.Notes[i]! w b):=by
 obtain ⟨k,hk,hkk⟩:=f178 hn;generalize hx:s.ShSheet.Notes[i]! = x at *;have hlo:=hn.lo;have hhi:=hn.hi;have ho:=hn.oth;have ha:=hn.a;have hB:=hn.b;unfold F70 F141v1;simp only [Za];rw [ok_bind];have hidx:idx s.ShSheet.Notes (i:Int)=some x:=by rw [idx_nat hi,hx]
 unfold F190;simp only [hidx,hk,Za]
 have hsel:(if (some k==some 287)=true then some (Sum.inr (α:=Bool×List Int×List Int×Bool) ((8:Int),x.By.Lo,x.By.Hi)) else if (some k==some 288)=true then some (Sum.inr ((8:Int),w64 (x.By.Lo*s.ShSheet.Interval),w64 (x.By.Hi*s.ShSheet.Interval))) else some (Sum.inr (x.B,x.By.Lo,x.By.Hi)))=some (Sum.inr ((oth x:Int),nlo s.ShSheet.Interval x,nhi s.ShSheet.Interval x)):=by
  unfold nlo at hlo;unfold nhi at hhi;unfold oth nlo nhi;rcases hkk with ⟨e,rfl⟩|⟨e,rfl⟩|⟨e,rfl⟩|⟨e,rfl⟩
  ·simp [e]
  ·rw [if_pos e] at hlo hhi;simp [e,w64_id (n:=x.By.Lo*s.ShSheet.Interval) (by omega) (by omega),w64_id (n:=x.By.Hi*s.ShSheet.Interval) (by omega) (by omega)]
  ·simp [e];omega
  ·simp [e];omega
 rw [hsel];simp only [Za,outK_inr];have haN:x.A=((x.A.toNat:Nat):Int):=by omega
 rw [w64_id (n:=nhi _ x+w) (by omega) (by omega),w64_id (n:=w-nlo _ x) (by omega) (by omega),haN];generalize hA:x.A.toNat=a at *;have ha9:a<9:=by omega
 rw [ok_bind];refine (round_ok hfu ho ha9 hb (by simp) (by omega)).mono ?_;rintro ⟨is,b1,b2,b3⟩ ⟨hr,hl2,hf3⟩;simp only at hr hl2 hf3 ⊢;cases is with
 | false =>
  simp only [Zk,if_false];rw [ok_some];simp only [need_true hl2,Za];rw [if_neg (by simp),ok_some,hf3 rfl];refine ⟨hl2,fun h=>by simp at h,fun _ h hs hh=>hr.2.2 rfl h hs ?_⟩;have:=hh.2;rw [hA] at this;exact this
 | true =>
  simp only [if_true];obtain ⟨hc1,hs1⟩:=hr.2.1 rfl;rw [ok_bind];refine (round_ok hfu ha9 ho hc1 hl2 (by omega)).mono ?_;rintro ⟨is2,c1,c2,c3⟩ ⟨hr2,hl3,hf4⟩;simp only at hr2 hl3 hf4 ⊢;rw [ok_some];simp only;have hlc:c1.length=81:=hr2.1;cases is2 with
  | true =>
   obtain ⟨hc2,hs2⟩:=hr2.2.1 rfl;simp only [if_true,cutN_all hlc,need_true hlc,need_true hl3,Za];rw [ok_some];refine ⟨hlc,fun _=>⟨hc2,fun h=>?_⟩,fun h=>by simp at h⟩;rw [hs2 h,hs1 h];unfold Holds;rw [hA];constructor
   ·rintro ⟨⟨g1,g2⟩,g3⟩;exact ⟨g1,by omega,by omega⟩
   ·rintro ⟨g1,g2,g3⟩;exact ⟨⟨g1,by omega⟩,by omega⟩
  | false =>
   simp only [Zk,if_false,need_true hl3,Za];rw [ok_some,hf4 rfl];refine ⟨hl3,fun h=>by simp at h,fun _ h hs hh=>hr2.2.2 rfl h ((hs1 h).2 ⟨hs,?_⟩) ?_⟩
   ·have:=hh.2;rw [hA] at this;omega
   ·have:=hh.1;rw [hA] at this;omega
end Go.Proofs.YtkcgfceihpampaaGreatDoor
namespace Go.Proofs.YtkcgfceihpampaaGreatDoor
open Go Go.Sx
set_option linter.all false
set_option maxRecDepth 100000

def freeL:List Int:=(List.range 9).flatMap fun i=>(List.range 9).map fun k=>if i=k∨k=8 then 0 else 9000
theorem f69:F69 200=some freeL:=by kernel_rfl
theorem free_len:freeL.length=81:=by decide
theorem free_at:∀i,i<9→∀k,k<9→M freeL i k=if i=k∨k=8 then 0 else 9000:=by decide
theorem free_cl:Cl freeL:=by
 refine ⟨free_len,fun i hi=>by rw [free_at i hi i hi];simp,fun i j k hi hj hk=>?_,fun i k hi hk=>?_⟩
 ·rw [free_at i hi k hk,free_at i hi j hj,free_at j hj k hk];split<;>split<;>split<;>omega
 ·rw [free_at i hi k hk];split<;>omega
theorem sat_free {x:Nat→Int}:Sat x freeL↔∀i,i<8→x 8≤x i∧x i≤x 8+9000:=by
 constructor
 ·intro h i hi;have h1:=h i 8 (by omega) (by omega);have h2:=h 8 i (by omega) (by omega);rw [free_at i (by omega) 8 (by omega),if_pos (by omega)] at h1;rw [free_at 8 (by omega) i (by omega),if_neg (by omega)] at h2;omega
 ·intro h i k hi hk;rw [free_at i hi k hk];split
  ·rename_i e;rcases e with rfl|rfl
   ·omega
   ·by_cases e:i=8
    ·subst e;omega
    ·have:=h i (by omega);omega
  ·rename_i e;have hk8:=h k (by omega);by_cases e8:i=8
   ·subst e8;omega
   ·have:=h i (by omega);omega


def AllH (s:S_api_ShSheet) (w:Int) (h:Nat→Int):Prop:=∀x∈s.Notes,Holds s.Interval x w h
structure Vn (s:S_api_ShSheet):Prop where
 iv:1≤s.Interval∧s.Interval≤1000
 many:s.Notes.length≤12
 notes:∀x∈s.Notes,Nok s.Interval x
def AllR (s:S_api_ShSheet) (w:Int) (r:List Int×Bool):Prop :=
 r.1.length=81∧(r.2=true→Cl r.1∧∀h,Sat h r.1↔Sat h freeL∧AllH s w h)∧(r.2=false→∀h,Sat h freeL→¬AllH s w h)

theorem take_succ {l:List S_api_ShNote} {i:Nat} (hi:i<l.length) (P:S_api_ShNote→Prop):(∀x∈l.take (i+1),P x)↔(∀x∈l.take i,P x)∧P l[i]! := by
 rw [List.take_succ,Zd hi,getElem!_pos l i hi];simp only [Z4,Option.toList_some,Zq];constructor
 ·intro h;exact ⟨fun x hx=>h x (.inl hx),h _ (.inr rfl)⟩
 ·rintro ⟨h1,h2⟩ x (hx|rfl)
  ·exact h1 x hx
  ·exact h2
theorem note_at {s:S_api_ShSheet} (hv:Vn s) {i:Nat} (hi:i<s.Notes.length):Nok s.Interval s.Notes[i]! := by
 rw [getElem!_pos s.Notes i hi];exact hv.notes _ (Yu _)

theorem all_ok {s:S_api_ShSheet} (hv:Vn s) {w:Int} (hw:0≤w∧w≤9000):Ok (F132 200 ⟨s⟩ w) (AllR s w):=by
 have hm:=hv.many;unfold F132;simp only [f69,Za,need_true free_len];rw [ok_bind]
 have key:=ok_loop (f:=F132L1 200 ⟨s⟩ w) (fun c=>∃i:Nat,c.1=i∧i≤s.Notes.length∧Cl c.2∧∀h,Sat h c.2↔Sat h freeL∧∀x∈s.Notes.take i,Holds s.Interval x w h) (fun c=>s.Notes.length-c.1.toNat)
  (fun o=>match o with | .inl r=>r.1.length=81∧r.2=false∧∀h,Sat h freeL→¬AllH s w h | .inr b=>Cl b∧∀h,Sat h b↔Sat h freeL∧AllH s w h) (by
   rintro n ⟨i',b⟩ ⟨i,hi,hil,hc,hs⟩ ih;simp only at hi hc hs;subst hi;rw [F132L1];simp only;by_cases hlt:i<s.Notes.length
   ·rw [if_pos (by simp;omega)];simp only [cutN_all hc.len,need_true hc.len,Za];rw [ok_bind];refine (with_ok (s:=⟨s⟩) (by omega) hlt (note_at hv hlt) hv.iv hw hc).mono ?_;rintro ⟨b',is⟩ ⟨h1,h2,h3⟩;simp only at h1 h2 h3 ⊢;simp only [need_true h1,Za];cases is with
    | false =>
     simp only [Zs,if_true,cutN_all h1,need_true h1,Za];rw [ok_some];refine ⟨h1,rfl,fun h hf ha=>?_⟩;refine h3 rfl h ((hs h).2 ⟨hf,fun x hx=>ha x (List.mem_of_mem_take hx)⟩) ?_;exact ha _ (by rw [getElem!_pos s.Notes i hlt];exact Yu _)
    | true =>
     simp only [Zt,Zk,if_false];obtain ⟨g1,g2⟩:=h2 rfl;rw [w64_id (by omega) (by omega)];refine ih _ ⟨i+1,by simp,by omega,g1,fun h=>?_⟩ (by simp only;omega);rw [g2 h,hs h,take_succ hlt,and_assoc]
   ·rw [if_neg (by simp;omega),ok_some];have:i=s.Notes.length:=by omega
    subst this;rw [List.take_length] at hs
    exact ⟨hc,hs⟩)
 refine (key 200 (0,freeL) ⟨0,rfl,by omega,free_cl,fun h=>by simp⟩ (by simp only;omega)).mono ?_;rintro o ho;cases o with
 | inl r =>
  obtain ⟨h1,h2,h3⟩:=ho;simp only [outK_inl,need_true h1,Za];rw [ok_some];exact ⟨h1,fun h=>by rw [h2] at h;simp at h,fun _=>h3⟩
 | inr b =>
  obtain ⟨h1,h2⟩:=ho;simp only [outK_inr,cutN_all h1.len,need_true h1.len,Za];rw [ok_some];exact ⟨h1.len,fun _=>⟨h1,h2⟩,fun h=>by simp at h⟩


def OpenR (s:S_api_ShSheet) (r:List Int×Int):Prop :=
 r.1.length=81∧(r.2=0∧Cl r.1∧(∀h,Sat h r.1↔Sat h freeL∧AllH s 0 h)∨r.2=9∧∀h,Sat h freeL→¬AllH s 0 h)
theorem open_ok {s:S_api_ShSheet} (hv:Vn s) (hc:F65 200 s=some (0,0,0)):Ok (F62 200 s) (OpenR s):=by
 unfold F62;rw [hc,Za];simp only;rw [if_neg (by simp),ok_bind];refine (all_ok hv (w:=0) (by omega)).mono ?_;rintro ⟨b,is⟩ ⟨h1,h2,h3⟩;simp only at h1 h2 h3 ⊢;cases is with
 | false =>
  simp only [Zs,if_true,cutN_all h1,need_true h1,Za];rw [ok_some];exact ⟨h1,.inr ⟨rfl,h3 rfl⟩⟩
 | true =>
  simp only [Zt,Zk,if_false,cutN_all h1,need_true h1,Za];rw [ok_some];exact ⟨h1,.inl ⟨rfl,h2 rfl⟩⟩


def Fit (s:S_api_ShSheet) (w:Int):Prop:=∃h,Sat h freeL∧AllH s w h
theorem fits_ok {s:S_api_ShSheet} (hv:Vn s) (hc:F65 200 s=some (0,0,0)):Ok (F12 200 s) (fun r=>r.2=0∧(r.1=true↔Fit s 0)):=by
 unfold F12;rw [ok_bind];refine (open_ok hv hc).mono ?_;rintro ⟨b,e⟩ ⟨h1,h2⟩;simp only at h1 h2 ⊢;simp only [need_true h1,Za,hc];rcases h2 with ⟨rfl,h3,h4⟩|⟨rfl,h3⟩
 ·rw [if_neg (by simp),ok_some];refine ⟨rfl,⟨fun _=>⟨_,(h4 _).1 (h3.top (j:=8) (by omega))⟩,fun _=>rfl⟩⟩
 ·rw [if_pos (by simp),if_pos (by simp),ok_some];exact ⟨rfl,⟨fun h=>by simp at h,fun ⟨h,g1,g2⟩=>absurd g2 (h3 h g1)⟩⟩

theorem heights_ok {s:S_api_ShSheet} (hv:Vn s) (hp:s.Points.length≤8) (hc:F65 200 s=some (0,0,0)) :
 Ok (F10 200 s) (fun r=>(r.2=0∧∃b,Cl b∧(∀h,Sat h b↔Sat h freeL∧AllH s 0 h)∧r.1=(List.range s.Points.length).map fun i=>⟨-M b i 8,M b 8 i⟩)∨(r=([],9)∧¬Fit s 0)):=by
 unfold F10;rw [ok_bind];refine (open_ok hv hc).mono ?_;rintro ⟨b,e⟩ ⟨h1,h2⟩;simp only at h1 h2 ⊢;simp only [need_true h1,Za];rcases h2 with ⟨rfl,h3,h4⟩|⟨rfl,h3⟩
 ·rw [if_neg (by simp),ok_bind]
  have key:=ok_loop (f:=F10L1 s (b,0)) (fun c=>∃i:Nat,c.1=i∧i≤s.Points.length∧c.2=(List.range i).map fun i=>(⟨-M b i 8,M b 8 i⟩:S_api_Span)) (fun c=>s.Points.length-c.1.toNat)
   (fun o=>o = .inr ((List.range s.Points.length).map fun i=>(⟨-M b i 8,M b 8 i⟩:S_api_Span))) (by
    rintro n ⟨i',l⟩ ⟨i,hi,hil,hl⟩ ih;simp only at hi hl;subst hi;subst hl;rw [F10L1];simp only;by_cases hlt:i<s.Points.length
    ·rw [if_pos (by simp;omega)];have hif:(0:Int)≤(i:Int)∧(i:Int)<9:=by omega
     have l1:=h3.low (i:=i) (k:=8) (by omega) (by omega);have l2:=h3.ub i 8 (by omega) (by omega);simp only [need_true hif,Za,Int.toNat_natCast];rw [show (8:Int).toNat=8 from rfl,getM h1 (by omega) (by omega),getM h1 (by omega) (by omega)];simp only [Za];rw [need_true (by simp;omega),Za,w64_id (n:=0-M b i 8) (by omega) (by omega),w64_id (by omega) (by omega)];refine ih _ ⟨i+1,by simp,by omega,?_⟩ (by simp only;omega);simp only [List.range_succ,YF,ZW,List.map_nil,Int.zero_sub]
    ·rw [if_neg (by simp;omega),ok_some];have:i=s.Points.length:=by omega
     subst this;rfl)
  refine (key 200 (0,[]) ⟨0,rfl,by omega,rfl⟩ (by simp only;omega)).mono ?_;rintro o rfl;rw [outK_inr,ok_some];exact .inl ⟨rfl,b,h3,h4,rfl⟩
 ·rw [if_pos (by simp),ok_some];exact .inr ⟨rfl,fun ⟨h,g1,g2⟩=>h3 h g1 g2⟩
end Go.Proofs.YtkcgfceihpampaaGreatDoor
namespace Go.Proofs.YtkcgfceihpampaaGreatDoor
open Go Go.Sx
set_option linter.all false
set_option maxRecDepth 100000

theorem Fit.mono {s:S_api_ShSheet} {v w:Int} (h:Fit s v) (hvw:v≤w):Fit s w:=by
 obtain ⟨h,h1,h2⟩:=h;exact ⟨h,h1,fun x hx=>⟨by have:=(h2 x hx).1;omega,by have:=(h2 x hx).2;omega⟩⟩

theorem wide_in {s:S_api_ShSheet} (hv:Vn s) {c4:Int×Int} {w:Int} (hw:0≤w∧w≤9000) (hc4:w64 ((w64 (c4.1+c4.2)).tdiv 2)=w) :
 Ok (F14L2 200 s c4 200 (0,freeL)) (fun o=>(∃b,o = .inr (.inl b))∧¬Fit s w∨(∃b,o = .inr (.inr b))∧Fit s w):=by
 have hm:=hv.many
 refine ok_loop (f:=F14L2 200 s c4) (fun c=>∃i:Nat,c.1=i∧i≤s.Notes.length∧Cl c.2∧∀h,Sat h c.2↔Sat h freeL∧∀x∈s.Notes.take i,Holds s.Interval x w h) (fun c=>s.Notes.length-c.1.toNat) _ (by
  rintro n ⟨i',b⟩ ⟨i,hi,hil,hc,hs⟩ ih;simp only at hi hc hs;subst hi;rw [F14L2];simp only [hc4];by_cases hlt:i<s.Notes.length
  ·rw [if_pos (by simp;omega)];simp only [cutN_all hc.len,Za];rw [ok_bind];refine (with_ok (s:=⟨s⟩) (by omega) hlt (note_at hv hlt) hv.iv hw hc).mono ?_;rintro ⟨b',is⟩ ⟨h1,h2,h3⟩;simp only at h1 h2 h3 ⊢;simp only [need_true h1,need_true hc.len,cutN_all h1,Za];cases is with
   | false =>
    simp only [Zs,if_true];rw [ok_some];refine .inl ⟨⟨_,rfl⟩,fun ⟨h,hf,ha⟩=>?_⟩;refine h3 rfl h ((hs h).2 ⟨hf,fun x hx=>ha x (List.mem_of_mem_take hx)⟩) ?_;exact ha _ (by rw [getElem!_pos s.Notes i hlt];exact Yu _)
   | true =>
    simp only [Zt,Zk,if_false];obtain ⟨g1,g2⟩:=h2 rfl;have hI:∀h,Sat h b'↔Sat h freeL∧∀x∈s.Notes.take (i+1),Holds s.Interval x w h:=fun h=>by rw [g2 h,hs h,take_succ hlt,and_assoc]
    rw [w64_id (by omega) (by omega)];by_cases he:b'=b
    ·subst he;rw [if_neg (by simp)];exact ih _ ⟨i+1,by simp,by omega,g1,hI⟩ (by simp only;omega)
    ·rw [if_pos (by simpa using he)];exact ih _ ⟨i+1,by simp,by omega,g1,hI⟩ (by simp only;omega)
  ·rw [if_neg (by simp;omega),ok_some];have:i=s.Notes.length:=by omega
   subst this;rw [List.take_length] at hs
   exact .inr ⟨⟨_,rfl⟩,⟨_,(hs _).1 (hc.top (j:=8) (by omega))⟩⟩) 200 (0,freeL) ⟨0,rfl,by omega,free_cl,fun h=>by simp⟩ (by simp only;omega)

theorem wide_out {s:S_api_ShSheet} (hv:Vn s):∀(k n:Nat) (lo hi:Int),-1≤lo→lo<hi→hi≤9000→(0≤lo→¬Fit s lo)→(hi=9000∨Fit s hi)→hi-lo≤2^k→k<n →
 Ok (F14L1 200 s n (lo,hi)) (fun o=>∃v,o = .inr v∧0≤v∧v≤9000∧(v=9000∨Fit s v)∧∀w,0≤w→w<v→¬Fit s w):=by
 intro k;induction k with
 | zero =>
  intro n lo hi h1 h2 h3 h4 h5 h6 hn;obtain ⟨n,rfl⟩:∃m,n=m+1:=⟨n-1,by omega⟩
  rw [F14L1];simp only;have:hi=lo+1:=by simp at h6;omega
  subst this;rw [w64_id (by omega) (by omega),if_neg (by simp;omega),ok_some];refine ⟨_,rfl,by omega,h3,h5,fun w hw hlt hf=>?_⟩;exact h4 (by omega) (hf.mono (by omega))
 | succ k ih =>
  intro n lo hi h1 h2 h3 h4 h5 h6 hn;obtain ⟨n,rfl⟩:∃m,n=m+1:=⟨n-1,by omega⟩
  rw [F14L1];simp only;rw [w64_id (n:=hi-lo) (by omega) (by omega)];by_cases hd:hi-lo>1
  ·rw [if_pos (by simpa using hd)];simp only [f69,Za,need_true free_len];have hsum:0≤lo+hi:=by omega
   have hmid:w64 ((w64 (lo+hi)).tdiv 2)=(lo+hi) / 2:=by
    rw [w64_id (n:=lo+hi) (by omega) (by omega),Yr hsum,w64_id (by omega) (by omega)]
   rw [hmid];generalize hg:(lo+hi) / 2=mid at *;have hp:(2:Int)^(k+1)=2*2^k:=by rw [Int.pow_succ];omega
   rw [hp] at h6;rw [ok_bind];refine (wide_in hv (c4:=(lo,hi)) (w:=mid) (by omega) hmid).mono ?_;rintro o (⟨⟨b,rfl⟩,hf⟩|⟨⟨b,rfl⟩,hf⟩)
   ·rw [outK_inr,outK_inl];exact ih n mid hi (by omega) (by omega) h3 (fun _=>hf) h5 (by omega) (by omega)
   ·rw [outK_inr,outK_inr];exact ih n lo mid h1 (by omega) (by omega) h4 (.inr hf) (by omega) (by omega)
  ·rw [if_neg (by simpa using hd),ok_some];refine ⟨_,rfl,by omega,h3,h5,fun w hw hlt hf=>?_⟩;exact h4 (by omega) (hf.mono (by omega))

theorem wider_ok {s:S_api_ShSheet} (hv:Vn s) (hc:F65 200 s=some (0,0,0)):Ok (F14 200 s) (fun r=>r.2=0∧0≤r.1∧r.1≤9000∧(r.1=9000∨Fit s r.1)∧∀w,0≤w→w<r.1→¬Fit s w):=by
 unfold F14;rw [hc,Za];simp only;rw [if_neg (by simp),ok_bind];refine (wide_out hv 14 200 (-1) 9000 (by omega) (by omega) (by omega) (fun h=>by omega) (.inl rfl) (by decide) (by omega)).mono ?_;rintro o ⟨v,rfl,h⟩;rw [outK_inr,ok_some];exact ⟨rfl,h⟩
end Go.Proofs.YtkcgfceihpampaaGreatDoor
namespace Go.Proofs.YtkcgfceihpampaaGreatDoor
open Go Go.Sx
set_option linter.all false
set_option maxRecDepth 100000

theorem out_false {lo hi:Int} {l:List Int} (h:∀n∈l,lo≤n∧n≤hi) (hl:l.length<100):F113 200 lo hi l=some false:=by
 have key:=ok_loop (f:=F207v1L1 l lo hi) (fun c=>∃i:Nat,c=i∧i≤l.length) (fun c=>l.length-c.toNat) (fun o=>o = .inr ()) (by
  rintro n c ⟨i,rfl,hi'⟩ ih;rw [F207v1L1];by_cases hlt:i<l.length
  ·rw [if_pos (by simp;omega),idx_nat hlt,Za];have hb:=h l[i]! (by rw [getElem!_pos l i hlt];exact Yu _);unfold F172;rw [Za,decide_eq_false (by omega),decide_eq_false (by omega)];simp only [cond_false,Zk,if_false];rw [w64_id (by omega) (by omega)];exact ih _ ⟨i+1,by simp,by omega⟩ (by first|omega|(simp;omega))
  ·rw [if_neg (by simp;omega),ok_some]) 200 0 ⟨0,rfl,by omega⟩ (by first|omega|(simp;omega))
 obtain ⟨o,h1,rfl⟩:=key;unfold F113 F171v1 F207v1;rw [h1,Za,outK_inr];rfl


structure NoteV (iv:Int) (many:Nat) (x:S_api_ShNote):Prop where
 kind:x.Kind=1∨x.Kind=2∨x.Kind=3∨x.Kind=4
 a:0≤x.A∧x.A<many
 b:0≤x.B∧x.B<many
 one:x.Kind=1∨x.Kind=2→x.B=0
 two:x.Kind=3∨x.Kind=4→x.A≠x.B
 spot:x.Kind=1→0≤x.By.Lo∧x.By.Lo≤x.By.Hi∧x.By.Hi≤9000
 band:x.Kind=2→0≤x.By.Lo∧x.By.Lo+1≤x.By.Hi∧x.By.Hi≤9000 / iv
 lake:x.Kind=3→x.By.Lo=0∧x.By.Hi=0
 slope:x.Kind=4 → -9000≤x.By.Lo∧x.By.Lo≤x.By.Hi∧x.By.Hi≤9000

theorem NoteV.nok {iv:Int} {many:Nat} {x:S_api_ShNote} (h:NoteV iv many x) (hiv:1≤iv∧iv≤1000) (hm:many≤8):Nok iv x:=by
 have ha:=h.a;have hb:=h.b;refine ⟨h.kind,by omega,by omega,?_,?_⟩
 ·unfold nlo;rcases h.kind with e|e|e|e
  ·have:=h.spot e;rw [if_neg (by omega)];omega
  ·have:=h.band e;rw [if_pos e];have h2:x.By.Lo*iv≤9000:=Int.le_trans (Int.mul_le_mul_of_nonneg_right (b:=9000 / iv) (by omega) (by omega)) (Int.ediv_mul_le _ (by omega));have h3:=Int.mul_nonneg this.1 (show 0≤iv by omega);omega
  ·have:=h.lake e;rw [if_neg (by omega)];omega
  ·have:=h.slope e;rw [if_neg (by omega)];omega
 ·unfold nhi;rcases h.kind with e|e|e|e
  ·have:=h.spot e;rw [if_neg (by omega)];omega
  ·have:=h.band e;rw [if_pos e];have h2:x.By.Hi*iv≤9000:=Int.le_trans (Int.mul_le_mul_of_nonneg_right (b:=9000 / iv) (by omega) (by omega)) (Int.ediv_mul_le _ (by omega));have h3:=Int.mul_nonneg (show 0≤x.By.Hi by omega) (show 0≤iv by omega);omega
  ·have:=h.lake e;rw [if_neg (by omega)];omega
  ·have:=h.slope e;rw [if_neg (by omega)];omega

theorem f140 {s:S_api_ShSheet} {x:S_api_ShNote} (hiv:1≤s.Interval∧s.Interval≤1000) (hp:s.Points.length≤8) (h:NoteV s.Interval s.Points.length x):F140 200 s x=some 0:=by
 obtain ⟨k,hk,hkk⟩:=f178 (h.nok hiv hp);have ha:=h.a;have hb:=h.b;unfold F140;rw [hk,Za];simp only [Option.isNone_some,Zk,if_false];rw [w64_id (n:=(s.Points.length:Int)-1) (by omega) (by omega),out_false (by simp;omega) (by simp),Za];simp only [Zk,if_false];rcases hkk with ⟨e,rfl⟩|⟨e,rfl⟩|⟨e,rfl⟩|⟨e,rfl⟩
 ·have h1:=h.one (.inl e);have h2:=h.spot e;simp only [aboutF,Za,h1];rw [show ((1:Int)==1)=true from rfl];simp only [cond_true,bne_self_eq_false,Zs,optG_true,Za];rw [show ((1:Int)==2)=false from rfl];simp only [cond_false,Zk,if_false];rw [if_pos (by rfl),Za,outK_inr];simp only;rw [out_false (by simp;omega) (by simp),Za];simp only [Zk,if_false];rw [w64_id (by omega) (by omega),if_neg (by simp;omega)]
 ·have h1:=h.one (.inr e);have h2:=h.band e;have h3:(0:Int)≤9000 / s.Interval:=Int.ediv_nonneg (by omega) (by omega);have h4:9000 / s.Interval≤9000:=Int.ediv_le_self _ (by omega);simp only [aboutF,Za,h1];rw [show ((1:Int)==1)=true from rfl];simp only [cond_true,bne_self_eq_false,Zs,optG_true,Za];rw [show ((1:Int)==2)=false from rfl];simp only [cond_false,Zk,if_false];rw [if_neg (by decide),if_pos (by rfl),need_true (by omega),Za,Za,outK_inr];simp only;rw [Yr (by omega),w64_id (n:=9000 / s.Interval) (by omega) (by omega),out_false (by simp;omega) (by simp),Za];simp only [Zk,if_false];rw [w64_id (by omega) (by omega),if_neg (by simp;omega)]
 ·have h1:=h.two (.inl e);have h2:=h.lake e;simp only [aboutF,Za];rw [show ((2:Int)==1)=false from rfl];simp only [cond_false,Zs,optG_true,Za];rw [show ((2:Int)==2)=true from rfl];simp only [cond_true];rw [if_neg (by simpa using h1),if_neg (by decide),if_neg (by decide),if_neg (by decide),Za,outK_inr];simp only;rw [out_false (by simp;omega) (by simp),Za];simp only [Zk,if_false];rw [w64_id (by omega) (by omega),if_neg (by simp;omega)]
 ·have h1:=h.two (.inr e);have h2:=h.slope e;simp only [aboutF,Za];rw [show ((2:Int)==1)=false from rfl];simp only [cond_false,Zs,optG_true,Za];rw [show ((2:Int)==2)=true from rfl];simp only [cond_true];rw [if_neg (by simpa using h1),if_neg (by decide),if_neg (by decide),if_pos (by rfl),Za,outK_inr];simp only;rw [out_false (by simp;omega) (by simp),Za];simp only [Zk,if_false];rw [w64_id (by omega) (by omega),if_neg (by simp;omega)]

theorem f138 {s:S_api_ShSheet} (hiv:1≤s.Interval∧s.Interval≤1000) (hp:s.Points.length≤8) (hm:s.Notes.length≤12) (h:∀x∈s.Notes,NoteV s.Interval s.Points.length x):F138 200 s.Notes s.Interval s.Points s.Notes=some (0,0):=by
 have key:=ok_loop (f:=F138L1 200 s.Notes s.Interval s.Points s.Notes) (fun c=>∃i:Nat,c=i∧i≤s.Notes.length) (fun c=>s.Notes.length-c.toNat) (fun o=>o = .inr ()) (by
  rintro n c ⟨i,rfl,hi'⟩ ih;rw [F138L1];by_cases hlt:i<s.Notes.length
  ·rw [if_pos (by simp;omega),idx_nat hlt,Za];have hb:=h s.Notes[i]! (by rw [getElem!_pos s.Notes i hlt];exact Yu _);unfold F139;rw [show (⟨s.Interval,s.Points,s.Notes⟩:S_api_ShSheet)=s from rfl,f140 hiv hp hb,Za,Za,if_neg (by simp),w64_id (by omega) (by omega)];exact ih _ ⟨i+1,by simp,by omega⟩ (by first|omega|(simp;omega))
  ·rw [if_neg (by simp;omega),ok_some]) 200 0 ⟨0,rfl,by omega⟩ (by first|omega|(simp;omega))
 obtain ⟨o,h1,rfl⟩:=key;unfold F138;rw [h1,Za,outK_inr]

theorem f65 {s:S_api_ShSheet} (hiv:1≤s.Interval∧s.Interval≤1000) (h1:1≤s.Points.length) (hp:s.Points.length≤8) (hm:s.Notes.length≤12) (h:∀x∈s.Notes,NoteV s.Interval s.Points.length x) {m:List (ByteArray×Int)} (hn:F136 200 s.Points []=some (0,0,m)):F65 200 s=some (0,0,0):=by
 unfold F65;rw [out_false (by simpa using hiv) (by simp),Za];simp only [Zk,if_false];rw [out_false (by simp;omega) (by simp),Za];simp only [Zk,if_false];rw [hn,Za];simp only;rw [if_neg (by simp),if_neg (by simp;omega),f138 hiv hp hm h,Za];simp only;rw [if_neg (by simp)]
theorem vn_of {s:S_api_ShSheet} (hiv:1≤s.Interval∧s.Interval≤1000) (hp:s.Points.length≤8) (hm:s.Notes.length≤12) (h:∀x∈s.Notes,NoteV s.Interval s.Points.length x):Vn s:=⟨hiv,hm,fun x hx=>(h x hx).nok hiv hp⟩
end Go.Proofs.YtkcgfceihpampaaGreatDoor
