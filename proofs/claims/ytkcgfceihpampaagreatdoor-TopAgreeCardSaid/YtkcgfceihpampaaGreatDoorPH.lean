/- The law of TopAgree, from what Awake answers. -/
import Derived.Test.YtkcgfceihpampaaGreatDoorPF
import Derived.Test.YtkcgfceihpampaaGreatDoorDZ
namespace Go.Proofs.YtkcgfceihpampaaGreatDoor
open Go Go.Sx
set_option linter.all false
set_option maxRecDepth 100000

theorem e35 {d w:Cs} {ch:List Int} (ht:0≤d.Tol∧d.Tol≤50) (hm:d.Edges.length≤8) (hw:w.Edges.length=d.Edges.length)
 (hf:∀i,i<d.Edges.length→w.Edges[i]!.Points.length=d.Edges[i]!.Points.length∧d.Edges[i]!.Points.length≤4∧∀k,k<d.Edges[i]!.Points.length→PtF d.Tol ch d.Edges[i]! d.Edges[i]!.Points[k]! w.Edges[i]!.Points[k]!) :
 Ok (F35 200 d w ch) (fun r=>r.1.Interval=100∧JI r.2 r.1.Points r.1.Notes):=by
 unfold F35;rw [ok_bind]
 have key:=ok_loop (f:=F35L1 200 d w ch) (fun c=>∃i:Nat,c.1=i∧i≤d.Edges.length∧JI c.2.1 c.2.2.1 c.2.2.2) (fun c=>d.Edges.length-c.1.toNat) (fun o=>∃r,o = .inr r∧JI r.1 r.2.1 r.2.2) (by
  rintro n ⟨i',high,pts,notes⟩ ⟨i,hi,hil,hj⟩ ih;simp only at hi hj;subst hi;rw [F35L1];dsimp only;by_cases hlt:i<d.Edges.length
  ·obtain ⟨f1,f2,f3⟩:=hf i hlt;rw [if_pos (by simp;omega),idx_nat hlt,Za,ok_bind];refine (e35L2 (q:=((i:Int),high,pts,notes)) rfl ht (by omega) f1 f2 f3 200 (0,high,pts,notes) ⟨0,rfl,by omega,hj⟩ (by simp only;omega)).mono ?_;rintro o ⟨r,rfl,hr⟩;rw [outK_inr,w64_id (by omega) (by omega)];exact ih _ ⟨i+1,by simp,by omega,hr⟩ (by simp only;omega)
  ·rw [if_neg (by simp;omega),ok_some]
   exact ⟨_,rfl,hj⟩) 200 (0,[],[],[]) ⟨0,rfl,by omega,⟨by simp,by simp,by simp,by simp,by simp⟩⟩ (by simp only;omega)
 refine key.mono ?_;rintro o ⟨r,rfl,hr⟩;rw [outK_inr,ok_some];exact ⟨rfl,hr⟩


def trE (hl:List Int) (k:Nat):Int:=if k<hl.length then hl[k]! else 0
def nmB (l:List ByteArray):Bool:=(List.range l.length).all fun i=>nameB l[i]! && (l.take i).all fun p => !(p==l[i]!)
theorem nmB_ok {l:List ByteArray} (h:nmB l=true):NmOk l:=by
 intro i hi;have h1:=ZB.1 h i (List.mem_range.2 hi);rw [Zh] at h1;refine ⟨h1.1,fun hm=>?_⟩;have h2:=ZB.1 h1.2 _ hm;rw [ba_eq.2 rfl] at h2;cases h2
theorem nmB_all:(nmB (namesE.take 0)&&nmB (namesE.take 1)&&nmB (namesE.take 2)&&nmB (namesE.take 3)&&nmB (namesE.take 4)&&nmB (namesE.take 5)&&nmB (namesE.take 6))=true:=by kernel_rfl
theorem nm_take {n:Nat} (h:n≤6):NmOk (namesE.take n):=by
 have:=nmB_all;simp only [Zh] at this;refine nmB_ok ?_
 match n,h with
 | 0,_=>exact this.1.1.1.1.1.1
 | 1,_=>exact this.1.1.1.1.1.2
 | 2,_=>exact this.1.1.1.1.2
 | 3,_=>exact this.1.1.1.2
 | 4,_=>exact this.1.1.2
 | 5,_=>exact this.1.2
 | 6,_=>exact this.2
theorem JI.sh {high:List Int} {s:S_api_ShSheet} (hi:s.Interval=100) (h:JI high s.Points s.Notes) (h1:1≤high.length):ShOk s:=by
 have hl:=h.len;have h6:=h.six;have hm:=h.many;refine ⟨by rw [hi];decide,by omega,by omega,by rw [h.pts];exact nm_take h6,by omega,fun y hy=>?_⟩;obtain ⟨q1,q2,q3,q4,q5,q6,q7⟩:=h.nt y hy;exact ⟨.inl q1,by omega,by omega,fun _=>q3,by omega,fun _=>by omega,by omega,by omega,by omega⟩
theorem JI.fit {high:List Int} {s:S_api_ShSheet} (h:JI high s.Points s.Notes):Sat (trE high) freeL∧AllH s 0 (trE high):=by
 have h6:=h.six;have h8:trE high 8=0:=by unfold trE;rw [if_neg (by omega)]
 refine ⟨sat_free.2 fun i hi=>?_,fun y hy=>?_⟩
 ·rw [h8];unfold trE;split
  ·rename_i hlt;have:=h.hi _ (mem_get hlt);omega
  ·omega
 ·obtain ⟨q1,q2,q3,q4,q5,q6,q7⟩:=h.nt y hy;have e:trE high y.A.toNat=high[y.A.toNat]! := by unfold trE;rw [if_pos (by omega)]
  unfold Holds nlo nhi oth;rw [if_neg (show ¬y.Kind=2 by omega),if_neg (show ¬y.Kind=2 by omega),if_pos (show y.Kind=1∨y.Kind=2 from .inl q1),h8,e];omega
theorem JI.heights {high:List Int} {s:S_api_ShSheet} (hi:s.Interval=100) (h:JI high s.Points s.Notes) (h1:1≤high.length):Ok (F10 200 s) (fun r=>r.2=0∧r.1.length=high.length∧∀i,i<high.length→r.1[i]!.Lo≤high[i]! ∧ high[i]! ≤ r.1[i]!.Hi):=by
 have hs:=h.sh hi h1;have hl:=h.len;have h6:=h.six;have hfit:=h.fit;refine (heights_ok hs.vn hs.pts hs.f65).mono fun r hr=>?_;rcases hr with ⟨z,b,hc,hsat,hl1⟩|⟨_,hn⟩
 ·have hb:=(hsat (trE high)).2 hfit;refine ⟨z,by rw [hl1];simp [hl],fun i hi=>?_⟩;have e:r.1[i]! = ⟨-M b i 8,M b 8 i⟩:=by rw [getElem!_pos r.1 i (by rw [hl1];simp;omega)];simp [hl1]
  have g1:=hb i 8 (by omega) (by omega);have g2:=hb 8 i (by omega) (by omega);have h8:trE high 8=0:=by unfold trE;rw [if_neg (by omega)]
  have hi':trE high i=high[i]! := by unfold trE;rw [if_pos hi]
  rw [e];simp only;omega
 ·exact absurd ⟨_,hfit⟩ hn

theorem offs_eq {c d:Cs} (h:c.Edges=d.Edges):∀i,offs c i=offs d i:=by
 intro i;induction i with
 | zero=>rfl
 | succ i ih=>rw [offs,offs,ih,h]
theorem neg_get {s:List Int} {i:Nat} (h:i<s.length):(s.map fun v=>0-v)[i]! = 0-s[i]! := by
 rw [getElem!_pos _ i (by simpa using h),getElem!_pos s i h];simp

theorem told_chk {c:Cs} {x:S_hachurelaw02qShown} (hh:Big x.High) (h:(chk c).2.2=0) {s:List Int} (hs:inR c s) {es:List Eg} (hl:es.length=c.Edges.length) (he:∀j,j<c.Edges.length→EgH c s x j es[j]!) :
 (chk ⟨c.Tol,c.Sheets,es⟩).2.2=0∧Ag ⟨c.Tol,c.Sheets,es⟩ (s.map fun v=>0-v):=by
 have hv:=chk_val (chk_err h);have hc:=chk_zero.1 h;have htol:=hv.tol
 have hpt:∀j,j<c.Edges.length→∀k,k<es[j]!.Points.length→(0≤es[j]!.Points[k]!.A∧es[j]!.Points[k]!.A≤9000)∧(0≤es[j]!.Points[k]!.B∧es[j]!.Points[k]!.B≤9000)∧es[j]!.Points[k]!.B-es[j]!.Points[k]!.A-c.Tol≤s[c.Edges[j]!.B.toNat]! - s[c.Edges[j]!.A.toNat]! ∧ s[c.Edges[j]!.B.toNat]! - s[c.Edges[j]!.A.toNat]! ≤ es[j]!.Points[k]!.B-es[j]!.Points[k]!.A+c.Tol:=by
  intro j hj k hk;have hE:=he j hj;have hen:=ends hv hj;have hA:=hs.2 c.Edges[j]!.A.toNat (by omega);have hB:=hs.2 c.Edges[j]!.B.toNat (by omega);have mA:=most_ok hv (i:=c.Edges[j]!.A.toNat) (by omega);have mB:=most_ok hv (i:=c.Edges[j]!.B.toNat) (by omega);have hof:=offs_le hv j (by omega);have hh:=(hiI_ok hh (n:=offs c j+k) (by omega)).2;have hO:=hE.ok k (by rw [←hE.len];exact hk);unfold okH at hO;omega
 have hch:(chk ⟨c.Tol,c.Sheets,es⟩).2.2=0:=by
  refine chk_zero.2 ⟨hc.1,hc.2.1,by simp only;omega,hc.2.2.2.1,hc.2.2.2.2.1,fun y hy=>?_⟩;obtain ⟨j,hj,rfl⟩:=List.getElem_of_mem hy;simp only at hj;have hE:=he j (by omega);have hz:=egE_zero.1 (hc.2.2.2.2.2 _ (mem_get (show j<c.Edges.length by omega)));have hp:=hpt j (by omega);rw [getElem!_pos es j hj] at hE hp;refine egE_zero.2 ⟨by rw [hE.a];exact hz.1,by rw [hE.a];exact hz.2.1,by rw [hE.b];exact hz.2.2.1,by rw [hE.b];exact hz.2.2.2.1,by rw [hE.a,hE.b];exact hz.2.2.2.2.1,by rw [hE.len];exact hz.2.2.2.2.2.1,by rw [hE.len];exact hz.2.2.2.2.2.2.1,fun p hp'=>?_⟩;obtain ⟨k,hk,rfl⟩:=List.getElem_of_mem hp';have:=hp k hk;rw [getElem!_pos _ k hk] at this;exact ⟨this.1.1,this.1.2,this.2.1.1,this.2.1.2⟩
 have hw:=chk_val (chk_err hch);refine ⟨hch,by simp [hs.1],fun i hi=>?_,fun i hi hk=>?_⟩
 ·have:=hs.2 i hi;rw [neg_get (by rw [hs.1];exact hi)];simp only;omega
 ·simp only at hi;have hi':i<c.Edges.length:=by omega
  have hE:=he i hi';have hen:=ends hv hi';refine (want_iff hw (mem_get hi) _).2 fun p hp=>?_;obtain ⟨k,hk,rfl⟩:=List.getElem_of_mem hp;simp only at hk ⊢;have h1:=hpt i hi' k hk;rw [getElem!_pos _ k hk] at h1;rw [hE.a,hE.b,neg_get (by rw [hs.1];omega),neg_get (by rw [hs.1];omega)];omega

theorem law5 (h7:F7 200=some true) (h32:F32 200=some true) (c:Cs) (x:S_hachurelaw02qShown) (h1:Small x.Shifts) (hh:Big x.High) (ho:Small x.Off):F5 200 c x=some true:=by
 unfold F5;rw [e17 (by omega),Za];by_cases h:(chk c).2.2=0
 ·have hv:=chk_val (chk_err h);have hc:=chk_zero.1 h;have hss:=hv.sheets;have hee:=hv.edges;rw [if_neg (by simp [h]),need_true (by simp;omega),Za];rw [show idx (([]:List S_api_EdSheet)++c.Sheets) 0=some c.Sheets[(0:Int).toNat]! from idx_bang (l:=c.Sheets) (by omega) (by omega),Za];obtain ⟨s0,hs0⟩:∃s0,s0=c.Sheets[(0:Int).toNat]! := ⟨_,rfl⟩
  have hs0m:s0∈c.Sheets:=by rw [hs0];exact mem_get (by simp;omega)
  obtain ⟨sh,hsh⟩:∃sh,sh=(([]:List S_api_EdSheet)++c.Sheets).set (0:Int).toNat (⟨s0.Name,s0.Weight,0⟩:S_api_EdSheet):=⟨_,rfl⟩
  rw [←hs0,←hsh]
  replace hsh:sh=c.Sheets.set (0:Int).toNat (⟨s0.Name,s0.Weight,0⟩:S_api_EdSheet):=hsh
  have hlen:sh.length=c.Sheets.length:=by rw [hsh,ZR]
  have hnames:sh.map (·.Name)=c.Sheets.map (·.Name):=by
   rw [hsh,List.map_set];apply List.ext_getElem (by simp);intro i g1 g2;rw [List.getElem_set];split
   ·rename_i e;subst e;rw [hs0,getElem!_pos c.Sheets _ (by simpa using g2)];simp
   ·rfl
  have hchk:∀t,0≤t∧t≤50→(chk ⟨t,sh,c.Edges⟩).2.2=0:=fun t ht=>by
   refine chk_zero.2 ⟨ht,by simp only;omega,hc.2.2.1,by simp only;rw [hnames];exact hc.2.2.2.1,fun y hy=>?_,fun y hy=>by simp only;rw [hlen];exact hc.2.2.2.2.2 y hy⟩;simp only [hsh] at hy;rcases List.mem_or_eq_of_mem_set hy with hy|rfl
   ·exact hc.2.2.2.2.1 y hy
   ·have:=hc.2.2.2.2.1 s0 hs0m;exact ⟨this.1,this.2.1,by simp,by simp⟩
  have hm0:sh[0]!.Most=0:=by
   rw [getElem!_pos sh 0 (by omega)];simp [hsh]
  have hc1:=hchk c.Tol hv.tol;have hw1:=hchk 0 (by omega);have hv1:=chk_val (chk_err hc1);have hv2:=chk_val (chk_err hw1);obtain ⟨s,es,s1,s2,s3,s4,s5⟩:=e33 (k:=200) (by omega) hv1 h1 hh ho;obtain ⟨s',ws,t1,t2,t3,t4,t5⟩:=e33 (k:=200) (by omega) hv2 h1 hh ho
  have hse:s'=s:=by
   rw [f106_eq (c:=⟨c.Tol,sh,c.Edges⟩) (d:=⟨0,sh,c.Edges⟩) rfl,t2] at s2;exact Option.some.inj s2
  subst hse;obtain ⟨hd,hag⟩:=told_chk hh hc1 s1 s4 s5;rw [s3,Za,t3,Za];dsimp only at s4 t4 s5 t5 ⊢;obtain ⟨d,hdd⟩:∃d,d=(⟨c.Tol,sh,es⟩:S_api_EdCase):=⟨_,rfl⟩
  obtain ⟨w,hww⟩:∃w,w=(⟨0,sh,ws⟩:S_api_EdCase):=⟨_,rfl⟩
  rw [←hdd,←hww];rw [←hdd] at hd hag;obtain ⟨l,l1,l2⟩:=e27 (k:=200) (by omega) d;rw [l1,Za];rcases l2 with ⟨l3,_⟩|⟨_,l3,_⟩|⟨_,l3,_,l4,_⟩
  ·exact absurd hd l3
  ·exact absurd hag (l3 _)
  ·have hdv:=chk_val (chk_err hd);have hds:d.Sheets=sh:=by rw [hdd]
   have hde:d.Edges=es:=by rw [hdd]
   have hwe:w.Edges=ws:=by rw [hww]
   have hdt:d.Tol=c.Tol:=by rw [hdd]
   have hll:l.1.length=sh.length:=by rw [l4.1,hds]
   have hl0:l.1[0]! = 0:=by
    have:=l4.2.box 0 (by rw [hds];omega);rw [hds,hm0] at this;omega
   have hlr:∀i,i<sh.length → -6≤l.1[i]! ∧ l.1[i]! ≤ 6:=fun i hi=>by
    have g1:=l4.2.box i (by rw [hds];exact hi);have g2:=most_ok hdv (i:=i) (by rw [hds];exact hi);omega
   rw [l3];have e0:((l.1.length:Int) != (sh.length:Int))=false:=by rw [bne_eq_false_iff_eq];omega
   rw [e0];simp only [bne_self_eq_false,cond_false,Zs,optG_true];rw [show idx l.1 0=some l.1[0]! from idx_nat (i:=0) (by omega),Za,hl0,if_neg (by simp)]
   obtain ⟨r,r1,r2,r3⟩:=e35 (d:=d) (w:=w) (ch:=l.1) (by rw [hdt];exact hv.tol) (by rw [hde,s4];exact hee) (by rw [hwe,hde,s4,t4]) (fun i hi=>by
    rw [hde] at hi;have hi':i<c.Edges.length:=by omega
    have E:=s5 i hi';have W:=t5 i hi';have hen:=ends hv1 hi';have heg:=hv1.eg _ (mem_get hi');dsimp only at E W hen heg;rw [hde,hwe,hdt];have htol:=hv.tol;have Ea:es[i]!.A=c.Edges[i]!.A:=E.a;have Eb:es[i]!.B=c.Edges[i]!.B:=E.b;refine ⟨by rw [W.len,E.len],by rw [E.len];exact heg.2.2.2.2.2.2.1,fun k hk=>?_⟩;have hk':k<c.Edges[i]!.Points.length:=by rw [←E.len];exact hk
    have o1:=E.ok k hk';have o2:=W.ok k hk';have hof:=offs_le hv1 i (by simp only;omega);have hoe:offs ⟨c.Tol,sh,c.Edges⟩ i=offs ⟨0,sh,c.Edges⟩ i:=offs_eq (c:=⟨c.Tol,sh,c.Edges⟩) (d:=⟨0,sh,c.Edges⟩) rfl i;have hh2:=(hiI_ok hh (n:=offs ⟨c.Tol,sh,c.Edges⟩ i+k) (by omega)).2;have zA:=s1.2 c.Edges[i]!.A.toNat (by simp only;omega);have zB:=s1.2 c.Edges[i]!.B.toNat (by simp only;omega);have mA:=most_ok hv1 (i:=c.Edges[i]!.A.toNat) (by simp only;omega);have mB:=most_ok hv1 (i:=c.Edges[i]!.B.toNat) (by simp only;omega);have cA:=hlr c.Edges[i]!.A.toNat (by omega);have cB:=hlr c.Edges[i]!.B.toNat (by omega);have hwant:=(want_iff hdv (mem_get (l:=d.Edges) (i:=i) (by rw [hde];omega)) _).1 (l4.2.eg i (by rw [hde];omega) (keep0 i)) es[i]!.Points[k]! (by rw [hde];exact mem_get hk);rw [hde,hdt,Ea,Eb] at hwant;rw [←hoe] at o2
    have hz0:∀a:Int,a=0→s'[a.toNat]! = 0:=fun a ha=>by
     subst ha;have:=s1.2 0 (by simp only;omega);dsimp only at this;rw [hm0] at this;show s'[0]! = 0;omega
    have hc0:∀a:Int,a=0→l.1[a.toNat]! = 0:=fun a ha=>by subst ha;exact hl0
    dsimp only [okH] at o1 o2 zA zB mA mB;generalize hiI x (offs ⟨c.Tol,sh,c.Edges⟩ i+k)=hgt at o1 o2 hh2;refine ⟨by omega,by omega,by omega,by omega,by rw [Ea];omega,by rw [Eb];omega,by rw [Ea,Eb];exact heg.2.2.2.2.1,by rw [Ea];exact cA,by rw [Eb];exact cB,fun ha=>?_,fun hb=>?_⟩
    ·rw [Ea] at ha;have g1:=hz0 _ ha;have g2:=hc0 _ ha;rw [Eb];omega
    ·rw [Eb] at hb;have g1:=hz0 _ hb;have g2:=hc0 _ hb;rw [Ea]
     omega)
   rw [r1,Za];by_cases hz:r.2.length=0
   ·rw [if_pos (by simp [hz]),h7,Za,optG_true,h32];rfl
   ·have hz1:1≤r.2.length:=by omega
    have hsok:=r3.sh r2 hz1;have h6:=r3.six;rw [if_neg (by simp only [beq_iff_eq];omega),show (⟨r.1.Interval,r.1.Points,r.1.Notes⟩:S_api_ShSheet)=r.1 from rfl];obtain ⟨a1,a2,a3⟩:=f16 (s:=r.1);obtain ⟨b1,b2,b3,b4⟩:=fits_ok hsok.vn hsok.f65;obtain ⟨g1,g2,g3,g4,g5⟩:=r3.heights r2 hz1;have hfit:b1.1=true:=b4.2 ⟨_,r3.fit⟩;rw [a2,Za,b2,Za,g2,Za,if_neg (by simp [a3.2 hsok,b3,hfit,g3,g4])]
    have key:=ok_loop (f:=F5L1 r g1) (fun c=>∃i:Nat,c=i∧i≤r.2.length) (fun c=>r.2.length-c.toNat) (fun o=>o = .inr ()) (by
     rintro n c ⟨i,rfl,hi'⟩ ih;rw [F5L1];by_cases hlt:i<r.2.length
     ·rw [if_pos (by simp;omega),idx_nat hlt,Za,idx_nat (by omega),Za];unfold F27;rw [f71,decide_eq_true (g5 i hlt),Za,Za,if_neg (by simp),w64_id (by omega) (by omega)];exact ih _ ⟨i+1,by simp,by omega⟩ (by omega)
     ·rw [if_neg (by simp;omega),ok_some]) 200 0 ⟨0,rfl,by omega⟩ (by simp;omega)
    obtain ⟨o,o1,rfl⟩:=key;rw [o1,Za,outK_inr,h7,Za,optG_true,h32];rfl
 ·rw [if_pos (by simpa using h),h7,Za,optG_true,h32];rfl
end Go.Proofs.YtkcgfceihpampaaGreatDoor
