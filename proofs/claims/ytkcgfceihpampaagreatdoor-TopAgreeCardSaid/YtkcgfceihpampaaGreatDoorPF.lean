/- A case that is told of heights; the sheet of both heights of its points. -/
import Derived.Test.YtkcgfceihpampaaGreatDoorPE
import Derived.Test.YtkcgfceihpampaaGreatDoorPT
import Derived.Test.YtkcgfceihpampaaGreatDoorDI
namespace Go.Proofs.YtkcgfceihpampaaGreatDoor
open Go Go.Sx
set_option linter.all false
set_option maxRecDepth 100000

def Big (x:List Int):Prop:=(∀v∈x,0≤v∧v≤65535)∧x.length≤9223372036854775807
theorem snoc_len {α:Type} {l:List α} {x:α}:(l++[x]).length=l.length+1:=by simp
theorem snoc_get {α:Type} [Inhabited α] {l:List α} {x:α} {i:Nat}:(l++[x])[i]! = if i<l.length then l[i]! else if i=l.length then x else default:=by
 split
 ·rename_i h;rw [getElem!_pos (l++[x]) i (by rw [snoc_len];omega),List.getElem_append_left h,←getElem!_pos l i h]
 ·rename_i h;split
  ·rename_i h2;subst h2;rw [getElem!_pos (l++[x]) _ (by rw [snoc_len];omega)];simp
  ·rw [getElem!_neg (l++[x]) i (by rw [snoc_len];omega)]

def hiI (x:S_hachurelaw02qShown) (n:Int):Int:=if x.High.length=0 then 100 else 100+(x.High[(n.tmod (x.High.length:Int)).toNat]!).tmod 8800
theorem hiI_ok {x:S_hachurelaw02qShown} (hh:Big x.High) {n:Int} (hn:0≤n):(if (decide ((x.High.length:Int)>0)) then ((need ((x.High.length:Int)≠0)).bind fun x23=>(idx x.High (n.tmod (x.High.length:Int))).bind fun x24=>some (.inr (w64 (100+((IntKind.i64.wrap x24).tmod 8800))))) else (some (.inr 100)):Option ((Cs×List Int)⊕Int))=some (.inr (hiI x n))∧100≤hiI x n∧hiI x n≤8899:=by
 unfold hiI;by_cases hz:x.High.length=0
 ·rw [if_neg (by simp [hz]),if_pos hz];exact ⟨rfl,by omega,by omega⟩
 ·have hp:(0:Int)<(x.High.length:Int):=by omega
  have t1:=tmod_in (n:=n) (m:=(x.High.length:Int)) hn hp;have h1:=hh.1 _ (mem_get (l:=x.High) (i:=(n.tmod (x.High.length:Int)).toNat) (by omega));have t2:=tmod_in (m:=8800) h1.1 (by omega);rw [if_pos (decide_eq_true (by omega)),need_true (by omega),Za,idx_bang t1.1 t1.2,Za,i64_id (by omega) (by omega),w64_id (by omega) (by omega),if_neg hz];exact ⟨rfl,by omega,by omega⟩

def okH (t a b h:Int) (p:Pt):Prop:=(-(t / 2)≤p.A-(h+a)∧p.A-(h+a)≤t / 2) ∧ -(t / 2)≤p.B-(h+b)∧p.B-(h+b)≤t / 2
theorem e33L3 {k:Nat} {c:Cs} (hv:Val c) {x:S_hachurelaw02qShown} (hh:Big x.High) (ho:Small x.Off) {s:List Int} (hs:inR c s) {i:Nat} (hi:i<c.Edges.length) {q:Int×Int×List Eg} (hq:q.2.1=(i:Int)) {m:Int} (hm:0≤m∧m≤500):∀(r j g:Nat) (u:List Pt),r+j=c.Edges[i]!.Points.length→r<g→u.length=j→(∀k,k<j→okH c.Tol s[c.Edges[i]!.A.toNat]! s[c.Edges[i]!.B.toNat]! (hiI x (m+k)) u[k]!) →
 ∃v,F33L3 c x s q c.Edges[i]! g (m+j,(j:Int),u)=some (.inr (m+c.Edges[i]!.Points.length,v))∧v.length=c.Edges[i]!.Points.length∧∀k,k<c.Edges[i]!.Points.length→okH c.Tol s[c.Edges[i]!.A.toNat]! s[c.Edges[i]!.B.toNat]! (hiI x (m+k)) v[k]! := by
 have he:=hv.eg _ (mem_get hi);have hen:=ends hv hi;have ht:=hv.tol;have hsl:=hs.1;have hA:=hs.2 c.Edges[i]!.A.toNat (by omega);have hB:=hs.2 c.Edges[i]!.B.toNat (by omega);have mA:=most_ok hv (i:=c.Edges[i]!.A.toNat) (by omega);have mB:=most_ok hv (i:=c.Edges[i]!.B.toNat) (by omega);have hhalf:c.Tol.tdiv 2=c.Tol / 2:=Yr ht.1;intro r;induction r with
 | zero =>
  intro j g u hr hg hu hok;obtain ⟨g,rfl⟩:∃q,g=q+1:=⟨g-1,by omega⟩
  have ej:j=c.Edges[i]!.Points.length:=by omega
  refine ⟨u,?_,by omega,fun k hk=>hok k (by omega)⟩;rw [F33L3];dsimp only;rw [hq,idx_nat hi,Za,if_neg (by rw [decide_eq_false (by omega)];simp),ej]
 | succ r ih =>
  intro j g u hr hg hu hok;obtain ⟨g,rfl⟩:∃q,g=q+1:=⟨g-1,by omega⟩
  rw [F33L3];dsimp only;rw [hq,idx_nat hi,Za,if_pos (decide_eq_true (by omega))];obtain ⟨h1,h2,h3⟩:=hiI_ok hh (n:=m+j) (by omega);obtain ⟨a,a1,a2,a3⟩:=e77 ho (n:=2*(m+j)) (by omega);obtain ⟨b,b1,b2,b3⟩:=e77 ho (n:=2*(m+j)+1) (by omega);have ta:=tmod_in (n:=a) (m:=2*(c.Tol / 2)+1) a2 (by omega);have tb:=tmod_in (n:=b) (m:=2*(c.Tol / 2)+1) b2 (by omega);rw [h1,Za];rw [outK_inr,w64_id (n:=2*(m+j)) (by omega) (by omega),a1,Za,hhalf,w64_id (n:=c.Tol / 2) (by omega) (by omega),w64_id (n:=2*(c.Tol / 2)) (by omega) (by omega),w64_id (n:=2*(c.Tol / 2)+1) (by omega) (by omega),need_true (by omega),Za,w64_id (n:=2*(m+j)+1) (by omega) (by omega),b1,Za,Za,idx_bang (l:=s) (by omega) (by omega),Za,idx_bang (l:=s) (by omega) (by omega),Za];obtain ⟨h,hdef⟩:∃h,h=hiI x (m+j):=⟨_,rfl⟩
  rw [←hdef] at h2 h3;rw [←hdef];rw [w64_id (n:=h+s[c.Edges[i]!.A.toNat]!) (by omega) (by omega),w64_id (n:=a.tmod (2*(c.Tol / 2)+1)-c.Tol / 2) (by omega) (by omega),w64_id (n:=h+s[c.Edges[i]!.B.toNat]!) (by omega) (by omega),w64_id (n:=b.tmod (2*(c.Tol / 2)+1)-c.Tol / 2) (by omega) (by omega),w64_id (n:=h+s[c.Edges[i]!.A.toNat]! + _) (by omega) (by omega),w64_id (n:=h+s[c.Edges[i]!.B.toNat]! + _) (by omega) (by omega),need_true (by simp only [ZF,Z5];omega),Za,w64_id (n:=m+j+1) (by omega) (by omega),w64_id (n:=(j:Int)+1) (by omega) (by omega)]
  obtain ⟨v,v1,v2⟩:=ih (j+1) g (u++[⟨h+s[c.Edges[i]!.A.toNat]! + (a.tmod (2*(c.Tol / 2)+1)-c.Tol / 2),h+s[c.Edges[i]!.B.toNat]! + (b.tmod (2*(c.Tol / 2)+1)-c.Tol / 2)⟩]) (by omega) (by omega) (by rw [snoc_len];omega) (fun k hk=>by
   rw [snoc_get];split
   ·exact hok k (by omega)
   ·rw [if_pos (by omega)];have e:k=j:=by omega
    subst e;rw [←hdef]
    refine ⟨⟨?_,?_⟩,?_,?_⟩<;>simp only<;>omega)
  refine ⟨v,?_,v2⟩;rw [show m+((j+1:Nat):Int)=m+j+1 by omega] at v1;exact v1

def offs (c:Cs):Nat→Int
 | 0=>0
 | i+1=>offs c i+(c.Edges[i]!.Points.length:Int)
theorem offs_le {c:Cs} (hv:Val c):∀i,i≤c.Edges.length→0≤offs c i∧offs c i≤4*i:=by
 intro i;induction i with
 | zero=>intro _;exact ⟨by simp [offs],by simp [offs]⟩
 | succ i ih =>
  intro h;have h1:=ih (by omega);have h2:=hv.eg _ (mem_get (l:=c.Edges) (i:=i) (by omega));rw [offs];omega

structure EgH (c:Cs) (s:List Int) (x:S_hachurelaw02qShown) (j:Nat) (y:Eg):Prop where
 a:y.A=c.Edges[j]!.A
 b:y.B=c.Edges[j]!.B
 len:y.Points.length=c.Edges[j]!.Points.length
 ok:∀k,k<c.Edges[j]!.Points.length→okH c.Tol s[c.Edges[j]!.A.toNat]! s[c.Edges[j]!.B.toNat]! (hiI x (offs c j+k)) y.Points[k]!
theorem e33L2 {k:Nat} (hk:10≤k) {c:Cs} (hv:Val c) {x:S_hachurelaw02qShown} (hh:Big x.High) (ho:Small x.Off) {s:List Int} (hs:inR c s):∀(r i g:Nat) (u:List Eg),r+i=c.Edges.length→r<g→u.length=i→(∀j,j<i→EgH c s x j u[j]!) →
 ∃v,F33L2 k c x s g (offs c i,(i:Int),u)=some (.inr v)∧v.length=c.Edges.length∧∀j,j<c.Edges.length→EgH c s x j v[j]! := by
 have hm:=hv.edges;intro r;induction r with
 | zero =>
  intro i g u hr hg hu hok;obtain ⟨g,rfl⟩:∃q,g=q+1:=⟨g-1,by omega⟩
  refine ⟨u,?_,by omega,fun j hj=>hok j (by omega)⟩;rw [F33L2];dsimp only;rw [if_neg (by simp;omega)]
 | succ r ih =>
  intro i g u hr hg hu hok;obtain ⟨g,rfl⟩:∃q,g=q+1:=⟨g-1,by omega⟩
  have hi:i<c.Edges.length:=by omega
  have he:=hv.eg _ (mem_get hi);have hof:=offs_le hv i (by omega);obtain ⟨v,v1,v2,v3⟩:=e33L3 (k:=k) hv hh ho hs hi (q:=(offs c i,(i:Int),u)) rfl (m:=offs c i) (by omega) c.Edges[i]!.Points.length 0 k [] (by omega) (by omega) rfl (fun k hk=>by omega);rw [show offs c i+((0:Nat):Int)=offs c i by omega] at v1;rw [F33L2];dsimp only;rw [if_pos (by simp;omega),idx_nat hi,Za,show F33L3 c x s (offs c i,(i:Int),u) c.Edges[i]! k (offs c i,0,[])=_ from v1,Za];rw [outK_inr,need_true (by simp only [ZF,Z5];omega),Za,w64_id (n:=(i:Int)+1) (by omega) (by omega)];refine ih (i+1) g (u++[⟨c.Edges[i]!.A,c.Edges[i]!.B,v⟩]) (by omega) (by omega) (by rw [snoc_len];omega) (fun j hj=>?_);rw [snoc_get];split
  ·exact hok j (by omega)
  ·rw [if_pos (by omega)];have e:j=i:=by omega
   subst e;exact ⟨rfl,rfl,v2,v3⟩
theorem f106_eq {k:Nat} {c d:Cs} (h:c.Sheets=d.Sheets) (x:List Int):F106 k c x=F106 k d x:=by
 have key:∀n q,F106L1 c x n q=F106L1 d x n q:=by
  intro n;induction n with
  | zero=>intro q;rfl
  | succ n ih=>intro q;rw [F106L1,F106L1,h];simp only [ih]
 unfold F106;rw [key]
theorem e33 {k:Nat} (hk:20≤k) {c:Cs} (hv:Val c) {x:S_hachurelaw02qShown} (h1:Small x.Shifts) (hh:Big x.High) (ho:Small x.Off):∃s es,inR c s∧F106 k c x.Shifts=some s∧F33 k c x=some (⟨c.Tol,c.Sheets,es⟩,s.map fun v=>0-v)∧es.length=c.Edges.length∧∀j,j<c.Edges.length→EgH c s x j es[j]! := by
 have hss:=hv.sheets;obtain ⟨s,s1,s2⟩:=e37 (k:=k) (by omega) hv h1;have hsl:=s2.1;obtain ⟨es,e1,e2,e3⟩:=e33L2 (k:=k) (by omega) hv hh ho s2 c.Edges.length 0 k [] (by omega) (by have:=hv.edges;omega) rfl (fun j hj=>by omega);refine ⟨s,es,s2,s1,?_,e2,e3⟩
 have hb:=for_fold (l:=s) (L:=F33L1 s) (β:=Cs×List Int) (σ:=List Int) (fun i u=>((i:Int),u)) (fun u=>u) (fun _ v u=>u++[0-v]) (fun i u=>u.length=i)
  (fun i u hi hu=>by simp [hu])
  (fun g i u hi hu=>by
   have hr:=s2.2 i (by omega);have hmo:=most_ok hv (i:=i) (by omega);rw [F33L1];dsimp only;rw [if_pos (decide_eq_true (by omega)),idx_nat hi,Za,w64_id (n:=0-s[i]!) (by omega) (by omega),need_true (by simp only [ZF,Z5];omega),Za,w64_id (n:=(i:Int)+1) (by omega) (by omega)]
   rfl)
  (fun g u _=>by rw [F33L1,if_neg (by simp)]) k [] rfl (by omega)
 have hm:∀(l:List Int) (i:Nat) (u:List Int),foldI (fun _ v u=>u++[0-v]) l i u=u++l.map fun v=>0-v:=by
  intro l;induction l with
  | nil=>intro i u;simp [foldI]
  | cons v l ih=>intro i u;rw [foldI,ih];simp
 rw [hm,List.nil_append] at hb;unfold F33;rw [s1,Za,show F33L1 s k (0,[])=_ from hb,Za];rw [outK_inr,show F33L2 k c x s k (0,0,[])=_ from e1,Za];rfl

structure PtF (t:Int) (ch:List Int) (y:Eg) (p z:Pt):Prop where
 pa:0≤p.A∧p.A≤9000
 pb:0≤p.B∧p.B≤9000
 za:0≤z.A∧z.A≤9000
 zb:0≤z.B∧z.B≤9000
 ea:0≤y.A∧y.A<ch.length
 eb:0≤y.B∧y.B<ch.length
 ne:y.A≠y.B
 ca : -6≤ch[y.A.toNat]! ∧ ch[y.A.toNat]! ≤ 6
 cb : -6≤ch[y.B.toNat]! ∧ ch[y.B.toNat]! ≤ 6
 a0:y.A=0→(-(t / 2)≤p.A-z.A∧p.A-z.A≤t / 2) ∧ -t≤p.B+ch[y.B.toNat]! - p.A∧p.B+ch[y.B.toNat]! - p.A≤t
 b0:y.B=0→(-(t / 2)≤p.B-z.B∧p.B-z.B≤t / 2) ∧ -t≤p.A+ch[y.A.toNat]! - p.B∧p.A+ch[y.A.toNat]! - p.B≤t
abbrev namesE:List ByteArray:=[⟨#[97]⟩,⟨#[98]⟩,⟨#[99]⟩,⟨#[100]⟩,⟨#[101]⟩,⟨#[102]⟩]
theorem namesE_succ {i:Nat} (h:i<6):namesE.take (i+1)=namesE.take i++[namesE[i]!]:=by
 rw [List.take_succ,Zd (show i<namesE.length from h),getElem!_pos namesE i h];rfl

structure JI (high:List Int) (pts:List ByteArray) (notes:List S_api_ShNote):Prop where
 six:high.length≤6
 pts:pts=namesE.take high.length
 many:notes.length=2*high.length
 hi:∀v∈high,0≤v∧v≤9000
 nt:∀y∈notes,y.Kind=1∧(0≤y.A∧y.A<high.length)∧y.B=0∧0≤y.By.Lo∧y.By.Lo≤high[y.A.toNat]! ∧ high[y.A.toNat]! ≤ y.By.Hi∧y.By.Hi≤9000
theorem JI.len {high:List Int} {pts:List ByteArray} {notes:List S_api_ShNote} (h:JI high pts notes):pts.length=high.length:=by
 have:=h.six;rw [h.pts,ZS];show min high.length 6=high.length;omega
theorem JI.snoc {high:List Int} {pts:List ByteArray} {notes:List S_api_ShNote} (h:JI high pts notes) (hm:high.length<6) {is lo1 hi1 lo2 hi2:Int} (b1:0≤lo1∧lo1≤is∧is≤hi1∧hi1≤9000) (b2:0≤lo2∧lo2≤is∧is≤hi2∧hi2≤9000) :
 JI (high++[is]) (pts++[namesE[pts.length]!]) ((notes++[⟨1,(pts.length:Int),0,⟨lo1,hi1⟩⟩])++[⟨1,(pts.length:Int),0,⟨lo2,hi2⟩⟩]):=by
 have hl:=h.len;have hn:=h.many;refine ⟨by rw [snoc_len];omega,by rw [snoc_len,namesE_succ hm,←h.pts,hl],by rw [snoc_len,snoc_len,snoc_len];omega,fun v hv=>?_,fun y hy=>?_⟩
 ·rcases Z4.1 hv with hv|hv
  ·exact h.hi v hv
  ·rw [Zq] at hv;omega
 ·have hlast:(high++[is])[high.length]! = is:=by rw [snoc_get,if_neg (by omega),if_pos rfl]
  have hnew:∀lo hi:Int,0≤lo→lo≤is→is≤hi→hi≤9000→y=⟨1,(pts.length:Int),0,⟨lo,hi⟩⟩→y.Kind=1∧(0≤y.A∧y.A<(high++[is]).length)∧y.B=0∧0≤y.By.Lo∧y.By.Lo≤(high++[is])[y.A.toNat]! ∧ (high++[is])[y.A.toNat]! ≤ y.By.Hi∧y.By.Hi≤9000:=by
   rintro lo hi g1 g2 g3 g4 rfl;have e:(high++[is])[((pts.length:Nat):Int).toNat]! = is:=by rw [hl,Int.toNat_natCast];exact hlast
   refine ⟨rfl,⟨?_,?_⟩,rfl,g1,?_,?_,g4⟩
   ·show (0:Int)≤(pts.length:Int);omega
   ·show (pts.length:Int)<((high++[is]).length:Int);rw [snoc_len];omega
   ·show lo≤(high++[is])[((pts.length:Nat):Int).toNat]!;rw [e];exact g2
   ·show (high++[is])[((pts.length:Nat):Int).toNat]! ≤ hi;rw [e];exact g3
  rcases Z4.1 hy with hy|hy
  ·rcases Z4.1 hy with hy|hy
   ·obtain ⟨q1,q2,q3,q4⟩:=h.nt y hy;have e:(high++[is])[y.A.toNat]! = high[y.A.toNat]! := by rw [snoc_get,if_pos (by omega)]
    rw [e,snoc_len];exact ⟨q1,⟨q2.1,by omega⟩,q3,q4⟩
   ·rw [Zq] at hy;exact hnew lo1 hi1 b1.1 b1.2.1 b1.2.2.1 b1.2.2.2 hy
  ·rw [Zq] at hy;exact hnew lo2 hi2 b2.1 b2.2.1 b2.2.2.1 b2.2.2.2 hy
theorem e35L2 {d w:Cs} {ch:List Int} {i:Nat} {y:Eg} {q:Int×List Int×List ByteArray×List S_api_ShNote} (hq:q.1=(i:Int)) (ht:0≤d.Tol∧d.Tol≤50) (hw:i<w.Edges.length) (hl:w.Edges[i]!.Points.length=y.Points.length) (hp4:y.Points.length≤4)
 (hf:∀k,k<y.Points.length→PtF d.Tol ch y y.Points[k]! w.Edges[i]!.Points[k]!):∀(n:Nat) (c:Int×List Int×List ByteArray×List S_api_ShNote),(∃k:Nat,c.1=k∧k≤y.Points.length∧JI c.2.1 c.2.2.1 c.2.2.2)→y.Points.length-c.1.toNat<n →
 Ok (F35L2 d w ch q y n c) (fun o=>∃r,o = .inr r∧JI r.1 r.2.1 r.2.2):=by
 refine ok_loop _ (fun c:Int×List Int×List ByteArray×List S_api_ShNote=>y.Points.length-c.1.toNat) _ ?_;rintro n ⟨k',high,pts,notes⟩ ⟨k,hk,hkl,hj⟩ ih;simp only at hk hj;subst hk;rw [F35L2];dsimp only;have hpl:=hj.len;have hsix:=hj.six;have hmany:=hj.many;by_cases hg:k<y.Points.length∧high.length<6
 ·obtain ⟨hg1,hg2⟩:=hg;have F:=hf k hg1;have pa:=F.pa;have pb:=F.pb;have za:=F.za;have zb:=F.zb;have ca:=F.ca;have cb:=F.cb;have ea:=F.ea;have eb:=F.eb;rw [if_pos (by simp;omega),hq,idx_nat hw,idx_nat hg1];simp only [Za];rw [idx_nat (by omega)];simp only [Za];generalize hpp:y.Points[k]! = p at F pa pb;generalize hzz:w.Edges[i]!.Points[k]! = z at F za zb
  have hnext:∀high' pts' notes',JI high' pts' notes'→Ok (F35L2 d w ch q y n (w64 ((k:Int)+1),high',pts',notes')) (fun o=>∃r,o = .inr r∧JI r.1 r.2.1 r.2.2):=fun a b c h=>by
   rw [w64_id (by omega) (by omega)];exact ih _ ⟨k+1,by simp,by omega,h⟩ (by simp only;omega)
  have hsel:∃own other fr is:Int,(if (y.B==0)=true then (some (.inr (p.B,p.A,y.A,z.B)):Option ((S_api_ShSheet×List Int)⊕(Int×Int×Int×Int))) else some (.inr (p.A,p.B,y.B,z.A)))=some (.inr (own,other,fr,is))∧(¬(y.A≠0∧y.B≠0)→(0≤own∧own≤9000)∧(0≤other∧other≤9000)∧(0≤is∧is≤9000)∧(0≤fr∧fr<ch.length)∧(-6≤ch[fr.toNat]! ∧ ch[fr.toNat]! ≤ 6)∧(-(d.Tol / 2)≤own-is∧own-is≤d.Tol / 2) ∧ -d.Tol≤other+ch[fr.toNat]! - own∧other+ch[fr.toNat]! - own≤d.Tol):=by
   by_cases hB:y.B=0
   ·exact ⟨p.B,p.A,y.A,z.B,by rw [if_pos (by simp [hB])],fun _=>⟨pb,pa,zb,ea,ca,(F.b0 hB).1,(F.b0 hB).2⟩⟩
   ·refine ⟨p.A,p.B,y.B,z.A,by rw [if_neg (by simp [hB])],fun h=>?_⟩
    have hA:y.A=0:=by
     by_cases e:y.A=0
     ·exact e
     ·exact absurd ⟨e,hB⟩ h
    exact ⟨pa,pb,za,eb,cb,(F.a0 hA).1,(F.a0 hA).2⟩
  obtain ⟨own,other,fr,is,h1,h2⟩:=hsel;rw [h1,Za,outK_inr];dsimp only;by_cases hc:y.A≠0∧y.B≠0
  ·rw [if_pos (by simp [hc.1,hc.2])];exact hnext _ _ _ hj
  ·have hcn:¬((cond (y.A != 0) (y.B != 0) false)=true):=by
    intro hq2;apply hc;by_cases e:y.A=0
    ·simp [e] at hq2
    ·by_cases e2:y.B=0
     ·simp [e2] at hq2
     ·exact ⟨e,e2⟩
   rw [if_neg hcn];obtain ⟨o1,o2,o3,o4,o5,o6,o7⟩:=h2 hc;have hhalf:d.Tol.tdiv 2=d.Tol / 2:=Yr ht.1;rw [show idx ([(⟨#[97]⟩:ByteArray),(⟨#[98]⟩:ByteArray),(⟨#[99]⟩:ByteArray),(⟨#[100]⟩:ByteArray),(⟨#[101]⟩:ByteArray),(⟨#[102]⟩:ByteArray)]:List ByteArray) (pts.length:Int)=some namesE[pts.length]! from idx_nat (l:=namesE) (by show pts.length<6;omega),Za];generalize hch:ch[fr.toNat]! = cc at o5 o7;rw [need_true (by simp;omega),Za,need_true (by simp;omega),Za,need_true (by simp;omega),Za,idx_bang o4.1 o4.2,Za,hch,need_true (by simp;omega),Za];rw [hhalf,w64_id (n:=d.Tol / 2) (by omega) (by omega),w64_id (n:=own-d.Tol / 2) (by omega) (by omega),w64_id (n:=own+d.Tol / 2) (by omega) (by omega),w64_id (n:=other+cc) (by omega) (by omega),w64_id (n:=other+cc-d.Tol) (by omega) (by omega),w64_id (n:=other+cc-d.Tol-d.Tol / 2) (by omega) (by omega),w64_id (n:=other+cc+d.Tol) (by omega) (by omega),w64_id (n:=other+cc+d.Tol+d.Tol / 2) (by omega) (by omega)];refine hnext _ _ _ (hj.snoc hg2 ⟨?_,?_,?_,?_⟩ ⟨?_,?_,?_,?_⟩)<;>(split<;>omega)
 ·rw [if_neg (by simp;omega),ok_some];exact ⟨_,rfl,hj⟩
end Go.Proofs.YtkcgfceihpampaaGreatDoor
