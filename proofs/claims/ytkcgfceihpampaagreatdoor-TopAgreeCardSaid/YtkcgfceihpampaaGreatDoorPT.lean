/- A sheet that the reference's Check lets by; truths; notes told of a truth. -/
import Derived.Test.YtkcgfceihpampaaGreatDoorPS
import Derived.Test.YtkcgfceihpampaaGreatDoorDE
import Derived.Test.YtkcgfceihpampaaGreatDoorPN
namespace Go.Proofs.YtkcgfceihpampaaGreatDoor
open Go Go.Sx
set_option linter.all false
set_option maxRecDepth 100000

theorem f71 (n lo hi:Int):F71 n lo hi=some (decide (lo≤n∧n≤hi)):=by
 unfold F71;by_cases h1:lo≤n<;>by_cases h2:n≤hi<;>simp [h1,h2]
def spE (p:S_api_Span) (lo hi:Int):Int:=if lo≤p.Lo∧p.Lo≤hi then (if lo≤p.Hi∧p.Hi≤hi then (if p.Lo≤p.Hi then 0 else 2) else 7) else 7
theorem spE_0 {p:S_api_Span} {lo hi:Int}:spE p lo hi=0↔lo≤p.Lo∧p.Lo≤p.Hi∧p.Hi≤hi:=by
 unfold spE
 repeat' split
 all_goals first|(constructor<;>intro h<;>omega)
theorem f83 {k:Nat} {p:S_api_Span} {lo hi:Int}:F83 (k+2) p lo hi=some (spE p lo hi):=by
 unfold F83 F146 spE;rw [F146L1,if_pos (by simp)];have h0:idx [p] 0=some p:=rfl;simp only [h0,f71,Za];by_cases h1:lo≤p.Lo∧p.Lo≤hi
 ·rw [decide_eq_true h1,if_pos h1];simp only [Zt,Zs,optG_true,Za,cond_false];by_cases h2:lo≤p.Hi∧p.Hi≤hi
  ·rw [decide_eq_true h2,if_pos h2];simp only [Zt,Zk,if_false];have h3:w64 (0+1)=1:=rfl;rw [h3];by_cases h4:p.Lo≤p.Hi
   ·rw [if_neg (by simpa using h4),if_pos h4,F146L1,if_neg (by simp)];rfl
   ·rw [if_pos (by simp;omega),if_neg h4,F146L1,if_neg (by simp)];rfl
  ·rw [decide_eq_false h2,if_neg h2];rfl
 ·rw [decide_eq_false h1,if_neg h1];simp only [Zs,Zt,optG_false,Za,cond_true,if_true];rfl


theorem f73 {s:S_api_ShSheet} {x:S_api_ShNote} (hiv:1≤s.Interval∧s.Interval≤1000) (hp:s.Points.length≤8):Ok (F73 200 s x) (fun e=>e=0↔NoteV s.Interval s.Points.length x):=by
 have hw:w64 ((s.Points.length:Int)-1)=(s.Points.length:Int)-1:=w64_id (by omega) (by omega);unfold F73;simp only [f71,Za,hw];by_cases hk:1≤x.Kind∧x.Kind≤4
 ·rw [decide_eq_true hk];simp only [Zt,Zk,if_false];by_cases ha:0≤x.A∧x.A≤(s.Points.length:Int)-1
  ·rw [decide_eq_true ha];simp only [Zt,Zs,optG_true,Za,cond_false];by_cases hb:0≤x.B∧x.B≤(s.Points.length:Int)-1
   ·rw [decide_eq_true hb];simp only [Zt,Zk,if_false];have hkk:x.Kind=1∨x.Kind=2∨x.Kind=3∨x.Kind=4:=by omega
    have hq:(9000:Int).tdiv s.Interval=9000 / s.Interval:=Yr (by omega);have h3:(0:Int)≤9000 / s.Interval:=Int.ediv_nonneg (by omega) (by omega);have h4:9000 / s.Interval≤9000:=Int.ediv_le_self _ (by omega);have hw2:w64 (9000 / s.Interval)=9000 / s.Interval:=w64_id (by omega) (by omega);rcases hkk with e|e|e|e<;>rw [e]
    ·by_cases h0:x.B=0
     ·rw [if_neg (by simp [h0]),if_pos (by rfl),f83,Za,ok_some,spE_0];exact ⟨fun h=>⟨.inl e,by omega,by omega,fun _=>h0,by omega,fun _=>h,by omega,by omega,by omega⟩,fun h=>h.spot e⟩
     ·rw [if_pos (by simp [h0]),ok_some];exact ⟨fun h=>by omega,fun h=>absurd (h.one (.inl e)) h0⟩
    ·by_cases h0:x.B=0
     ·rw [if_neg (by simp [h0]),if_neg (by decide),if_neg (by decide),if_neg (by decide),need_true (by omega),Za,hq,hw2,f83,Za];by_cases h5:spE x.By 0 (9000 / s.Interval)=0
      ·rw [h5];have h6:=spE_0.1 h5;by_cases h7:x.By.Lo=x.By.Hi
       ·rw [if_pos (by simp [h7]),ok_some];exact ⟨fun h=>by omega,fun h=>by have:=h.band e;omega⟩
       ·rw [if_neg (by simp [h7]),ok_some];exact ⟨fun h=>⟨.inr (.inl e),by omega,by omega,fun _=>h0,by omega,by omega,fun _=>by omega,by omega,by omega⟩,fun _=>rfl⟩
      ·rw [if_neg (by simp [h5]),ok_some];exact ⟨fun h=>absurd h h5,fun h=>absurd (spE_0.2 (by have:=h.band e;omega)) h5⟩
     ·rw [if_pos (by simp [h0]),ok_some];exact ⟨fun h=>by omega,fun h=>absurd (h.one (.inr e)) h0⟩
    ·by_cases h0:x.A=x.B
     ·rw [if_pos (by simp [h0]),ok_some];exact ⟨fun h=>by omega,fun h=>absurd h0 (h.two (.inl e))⟩
     ·rw [if_neg (by simp [h0]),if_neg (by decide),if_neg (by decide),if_pos (by rfl),f83,Za,ok_some,spE_0];exact ⟨fun h=>⟨.inr (.inr (.inl e)),by omega,by omega,by omega,fun _=>h0,by omega,by omega,fun _=>by omega,by omega⟩,fun h=>by have:=h.lake e;omega⟩
    ·by_cases h0:x.A=x.B
     ·rw [if_pos (by simp [h0]),ok_some];exact ⟨fun h=>by omega,fun h=>absurd h0 (h.two (.inr e))⟩
     ·rw [if_neg (by simp [h0]),if_neg (by decide),if_pos (by rfl),f83,Za,ok_some,spE_0];exact ⟨fun h=>⟨.inr (.inr (.inr e)),by omega,by omega,by omega,fun _=>h0,by omega,by omega,by omega,fun _=>by omega⟩,fun h=>by have:=h.slope e;omega⟩
   ·rw [decide_eq_false hb];simp only [Zs,if_true,ok_some];exact ⟨fun h=>by omega,fun h=>by have:=h.b;omega⟩
  ·rw [decide_eq_false ha];simp only [Zs,Zt,optG_false,Za,cond_true,if_true,ok_some];exact ⟨fun h=>by omega,fun h=>by have:=h.a;omega⟩
 ·rw [decide_eq_false hk];simp only [Zs,if_true,ok_some];exact ⟨fun h=>by omega,fun h=>by rcases h.kind with e|e|e|e<;>omega⟩

theorem fstB_none {α:Type} {p:α→Bool}:∀{l:List α} {i:Nat},fstB p l i=none↔∀x∈l,p x=false:=by
 intro l;induction l with
 | nil=>intro i;simp [fstB]
 | cons x l ih =>
  intro i;rw [fstB];cases h:p x with
  | true=>simp [h]
  | false=>simp [h,ih]
theorem ba_eq {a b:ByteArray}:(a==b)=true↔a=b:=by
 cases a with|mk a=>cases b with|mk b =>
 constructor
 ·intro h;have:(a==b)=true:=h;simpa using this
 ·intro h;have:a=b:=by simpa using h
  show (a==b)=true;simpa using this
theorem f72 {p:ByteArray} {l:List ByteArray} (hl:l.length≤8):Ok (F72 200 p l) (fun e=>e=0↔nameB p=true∧p ∉ l):=by
 unfold F72;rw [e101 p (by omega),Za];cases hn:nameB p with
 | false =>
  rw [if_pos (by rfl),ok_some];exact ⟨fun h=>by omega,fun h=>absurd h.1 (by simp)⟩
 | true =>
  rw [if_neg (by simp),e102 (by omega) (by omega),Za];cases hf:fstB (fun x=>x==p) l 0 with
  | none =>
   rw [if_neg (by simp),ok_some];refine ⟨fun _=>⟨rfl,fun hm=>?_⟩,fun _=>rfl⟩;have h1:(p==p)=false:=fstB_none.1 hf p hm;rw [ba_eq.2 rfl] at h1;cases h1
  | some k =>
   rw [if_pos (by simp),ok_some];refine ⟨fun h=>by omega,fun h=>absurd hf ?_⟩
   have:fstB (fun x=>x==p) l 0=none:=fstB_none.2 fun x hx=>by
    cases hq:x==p with
    | false=>rfl
    | true=>exact absurd (ba_eq.1 hq▸hx) h.2
   rw [this];simp
def NmOk (l:List ByteArray):Prop:=∀i,i<l.length→nameB l[i]! = true∧l[i]! ∉ l.take i

structure ShOk (s:S_api_ShSheet):Prop where
 iv:1≤s.Interval∧s.Interval≤1000
 one:1≤s.Points.length
 pts:s.Points.length≤8
 nm:NmOk s.Points
 many:s.Notes.length≤12
 notes:∀x∈s.Notes,NoteV s.Interval s.Points.length x
theorem f16 {s:S_api_ShSheet}:Ok (F16 200 s) (fun r=>r.2.2=0↔ShOk s):=by
 unfold F16;rw [f71,Za];by_cases hiv:1≤s.Interval∧s.Interval≤1000
 ·rw [decide_eq_true hiv,if_neg (by simp),f71,Za];by_cases hp:1≤(s.Points.length:Int)∧(s.Points.length:Int)≤8
  ·rw [decide_eq_true hp,if_neg (by simp),ok_bind]
   have key:=ok_loop (f:=F16L1 200 s) (fun c=>∃i:Nat,c=i∧i≤s.Points.length∧∀j,j<i→nameB s.Points[j]! = true∧s.Points[j]! ∉ s.Points.take j) (fun c=>s.Points.length-c.toNat)
    (fun o=>match o with | .inl r=>r.2.2≠0∧¬NmOk s.Points | .inr ()=>NmOk s.Points) (by
     rintro n c ⟨i,rfl,hil,hj⟩ ih;rw [F16L1];by_cases hlt:i<s.Points.length
     ·rw [if_pos (by simp;omega),idx_nat hlt,Za,sub_take (by omega) (by omega),Za,Int.toNat_natCast,ok_bind];refine (f72 (by rw [ZS];omega)).mono fun e he=>?_;by_cases h0:e=0
      ·rw [if_neg (by simp [h0]),w64_id (by omega) (by omega)];have h1:=he.1 h0;refine ih _ ⟨i+1,by simp,by omega,fun j hj'=>?_⟩ (by omega);by_cases e1:j=i
       ·subst e1;exact h1
       ·exact hj j (by omega)
      ·rw [if_pos (by simp [h0]),ok_some];exact ⟨h0,fun hn=>h0 (he.2 (hn i hlt))⟩
     ·rw [if_neg (by simp;omega),ok_some]
      exact fun j hj'=>hj j (by omega))
   refine (key 200 0 ⟨0,rfl,by omega,fun j h=>by omega⟩ (by simp;omega)).mono ?_;rintro (r|⟨⟩) hr
   ·rw [outK_inl,ok_some];exact ⟨fun h=>absurd h hr.1,fun h=>absurd h.nm hr.2⟩
   ·rw [outK_inr];by_cases hm:s.Notes.length≤12
    ·rw [if_neg (by simp;omega),ok_bind]
     have key:=ok_loop (f:=F16L2 200 s) (fun c=>∃i:Nat,c=i∧i≤s.Notes.length∧∀x∈s.Notes.take i,NoteV s.Interval s.Points.length x) (fun c=>s.Notes.length-c.toNat)
      (fun o=>match o with | .inl r=>r.2.2≠0∧¬∀x∈s.Notes,NoteV s.Interval s.Points.length x | .inr ()=>∀x∈s.Notes,NoteV s.Interval s.Points.length x) (by
       rintro n c ⟨i,rfl,hil,hj⟩ ih;rw [F16L2];by_cases hlt:i<s.Notes.length
       ·rw [if_pos (by simp;omega),idx_nat hlt,Za,ok_bind];refine (f73 hiv (by omega)).mono fun e he=>?_;by_cases h0:e=0
        ·rw [if_neg (by simp [h0]),w64_id (by omega) (by omega)];exact ih _ ⟨i+1,by simp,by omega,(take_succ hlt _).2 ⟨hj,he.1 h0⟩⟩ (by omega)
        ·rw [if_pos (by simp [h0]),ok_some];exact ⟨h0,fun hn=>h0 (he.2 (hn _ (by rw [getElem!_pos s.Notes i hlt];exact Yu _)))⟩
       ·rw [if_neg (by simp;omega),ok_some];rw [ZH (by omega)] at hj
        exact hj)
     refine (key 200 0 ⟨0,rfl,by omega,by simp⟩ (by simp;omega)).mono ?_;rintro (r|⟨⟩) hr2
     ·rw [outK_inl,ok_some];exact ⟨fun h=>absurd h hr2.1,fun h=>absurd h.notes hr2.2⟩
     ·rw [outK_inr,ok_some];exact ⟨fun _=>⟨hiv,by omega,by omega,hr,hm,hr2⟩,fun _=>rfl⟩
    ·rw [if_pos (by simp;omega),ok_some];exact ⟨fun h=>by simp at h,fun h=>absurd h.many hm⟩
  ·rw [decide_eq_false hp,if_pos (by rfl),ok_some];exact ⟨fun h=>by simp at h,fun h=>absurd ⟨by have:=h.one;omega,by have:=h.pts;omega⟩ hp⟩
 ·rw [decide_eq_false hiv,if_pos (by rfl),ok_some];exact ⟨fun h=>by simp at h,fun h=>absurd h.iv hiv⟩

theorem eq9 {a b:ByteArray}:eqk9 a b=true↔a=b:=ba_eq
theorem mg_ms (k k':ByteArray) (v:Int):∀m:List (ByteArray×Int),mget eqk9 k (mset eqk9 k' v m)=if k=k' then some v else mget eqk9 k m:=by
 intro m;induction m with
 | nil =>
  show (if eqk9 k k'=true then some v else none)=_;by_cases h:k=k'
  ·rw [if_pos (eq9.2 h),if_pos h]
  ·rw [if_neg (fun e=>h (eq9.1 e)),if_neg h];rfl
 | cons q m ih =>
  rw [mset];by_cases h:k'=q.1
  ·rw [if_pos (eq9.2 h),mget,mget,←h];by_cases h2:k=k'
   ·rw [if_pos (eq9.2 h2),if_pos h2]
   ·rw [if_neg (fun e=>h2 (eq9.1 e)),if_neg h2,if_neg (fun e=>h2 (eq9.1 e))]
  ·rw [if_neg (fun e=>h (eq9.1 e)),mget,mget,ih];by_cases h2:k=q.1
   ·rw [if_pos (eq9.2 h2),if_pos (eq9.2 h2),if_neg (show ¬k=k' from fun e=>h (e.symm.trans h2))]
   ·rw [if_neg (fun e=>h2 (eq9.1 e)),if_neg (fun e=>h2 (eq9.1 e))]
theorem f136 {l:List ByteArray} (hl:l.length≤8) (hn:NmOk l):∃m,F136 200 l []=some (0,0,m):=by
 have key:=ok_loop (f:=F136L1 l) (fun c=>∃i:Nat,c.1=i∧i≤l.length∧∀p,p ∉ l.take i→mget eqk9 p c.2=none) (fun c=>l.length-c.1.toNat) (fun o=>∃m,o = .inr m) (by
  rintro n ⟨i',m⟩ ⟨i,hi,hil,hj⟩ ih;simp only at hi hj;subst hi;rw [F136L1];by_cases hlt:i<l.length
  ·obtain ⟨h1,h2⟩:=hn i hlt;have h3:=hj _ h2;rw [if_pos (by simp;omega),idx_nat hlt,Za];unfold F137 F50;simp only [Za,h1,h3,mg_ms];rw [if_neg (by simp),if_neg (by decide),Za];simp only;rw [if_neg (by simp),w64_id (by omega) (by omega)];refine ih _ ⟨i+1,by simp,by omega,fun p hp=>?_⟩ (by simp only;omega);simp only [mg_ms];rw [List.take_succ,Zd hlt] at hp;simp only [Z4,Option.toList_some,Zq,not_or] at hp;rw [if_neg (by rw [getElem!_pos l i hlt];exact hp.2)];exact hj p hp.1
  ·rw [if_neg (by simp;omega),ok_some]
   exact ⟨_,rfl⟩) 200 (0,[]) ⟨0,rfl,by omega,fun p _=>rfl⟩ (by simp only;omega)
 obtain ⟨o,h1,m,rfl⟩:=key;unfold F136;rw [h1,Za,outK_inr];exact ⟨m,rfl⟩
theorem ShOk.vn {s:S_api_ShSheet} (h:ShOk s):Vn s:=vn_of h.iv h.pts h.many h.notes
theorem ShOk.f65 {s:S_api_ShSheet} (h:ShOk s):F65 200 s=some (0,0,0):=by
 obtain ⟨m,hm⟩:=f136 h.pts h.nm;exact Go.Proofs.YtkcgfceihpampaaGreatDoor.f65 h.iv h.one h.pts h.many h.notes hm
end Go.Proofs.YtkcgfceihpampaaGreatDoor
