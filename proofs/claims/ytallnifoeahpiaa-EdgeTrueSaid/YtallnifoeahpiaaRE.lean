/- The law EdgeTrue. -/
import Derived.Test.YtallnifoeahpiaaP7
import Derived.Test.YtallnifoeahpiaaR2
import Derived.Test.YtallnifoeahpiaaDLH
namespace Go.Proofs.Ytallnifoeahpiaa
open Go Go.Sx
set_option linter.all false

def okT (t a b:Int) (p:Pt):Prop:=(0≤p.A∧p.A≤9000)∧(0≤p.B∧p.B≤9000)∧p.B-p.A-t≤b-a∧b-a≤p.B-p.A+t
def Big (x:List Int):Prop:=(∀v∈x,0≤v∧v≤65535)∧x.length≤9223372036854775807
theorem snoc_len {α:Type} {l:List α} {x:α}:(l++[x]).length=l.length+1:=by simp
theorem e45L3 {k:Nat} {c:Cs} (hv:Val c) {x:S_hachurelaw02qShown} (hh:Big x.High) (ho:Small x.Off) {s:List Int} (hs:inR c s) {i:Nat} (hi:i<c.Edges.length) {q:Int×Int×List Eg} (hq:q.2.1=(i:Int)):∀(r j g:Nat) (n:Int) (u:List Pt),r+j=c.Edges[i]!.Points.length→r<g→0≤n→n+r≤1000→u.length=j→(∀p∈u,okT c.Tol s[c.Edges[i]!.A.toNat]! s[c.Edges[i]!.B.toNat]! p) →
 ∃v,F45L3 c x s q c.Edges[i]! g (n,(j:Int),u)=some (.inr (n+r,v))∧v.length=c.Edges[i]!.Points.length∧∀p∈v,okT c.Tol s[c.Edges[i]!.A.toNat]! s[c.Edges[i]!.B.toNat]! p:=by
 have he:=hv.eg _ (mem_get hi)
 have hen:=ends hv hi
 have ht:=hv.tol
 have hsl:=hs.1
 have hA:=hs.2 c.Edges[i]!.A.toNat (by omega)
 have hB:=hs.2 c.Edges[i]!.B.toNat (by omega)
 have mA:=most_ok hv (i:=c.Edges[i]!.A.toNat) (by omega)
 have mB:=most_ok hv (i:=c.Edges[i]!.B.toNat) (by omega)
 have hhalf:c.Tol.tdiv 2=c.Tol / 2:=Int.tdiv_eq_ediv_of_nonneg ht.1
 intro r
 induction r with
 | zero =>
  intro j g n u hr hg hn hn2 hu hok
  obtain ⟨g,rfl⟩:∃q,g=q+1:=⟨g-1,by omega⟩
  refine ⟨u,?_,by omega,hok⟩
  rw [F45L3]
  dsimp only
  rw [hq,idx_nat hi,Option.bind_some,if_neg (by rw [decide_eq_false (by omega)];simp)]
  simp
 | succ r ih =>
  intro j g n u hr hg hn hn2 hu hok
  obtain ⟨g,rfl⟩:∃q,g=q+1:=⟨g-1,by omega⟩
  rw [F45L3]
  dsimp only
  rw [hq,idx_nat hi,Option.bind_some,if_pos (decide_eq_true (by omega))]
  have hhigh:∃h,(if (decide ((x.High.length:Int)>0)) then ((need ((x.High.length:Int)≠0)).bind fun x23=>(idx x.High (n.tmod (x.High.length:Int))).bind fun x24=>some (.inr (w64 (100+((IntKind.i64.wrap x24).tmod 8800))))) else (some (.inr 100)):Option ((Cs×List Int)⊕Int))=some (.inr h)∧100≤h∧h≤8899:=by
   by_cases hz:x.High.length=0
   ·rw [if_neg (by simp [hz])]
    exact ⟨100,rfl,by omega,by omega⟩
   ·have hp:(0:Int)<(x.High.length:Int):=by omega
    have t1:=tmod_in (n:=n) (m:=(x.High.length:Int)) hn hp
    have h1:=hh.1 _ (mem_get (l:=x.High) (i:=(n.tmod (x.High.length:Int)).toNat) (by omega))
    have t2:=tmod_in (m:=8800) h1.1 (by omega)
    rw [if_pos (decide_eq_true (by omega)),need_true (by omega),Option.bind_some,idx_bang t1.1 t1.2,Option.bind_some,i64_id (by omega) (by omega),w64_id (by omega) (by omega)]
    exact ⟨_,rfl,by omega,by omega⟩
  obtain ⟨h,h1,h2,h3⟩:=hhigh
  obtain ⟨a,a1,a2,a3⟩:=e77 ho (n:=2*n) (by omega)
  obtain ⟨b,b1,b2,b3⟩:=e77 ho (n:=2*n+1) (by omega)
  have ta:=tmod_in (n:=a) (m:=2*(c.Tol / 2)+1) a2 (by omega)
  have tb:=tmod_in (n:=b) (m:=2*(c.Tol / 2)+1) b2 (by omega)
  rw [h1,Option.bind_some]
  rw [outK_inr,w64_id (n:=2*n) (by omega) (by omega),a1,Option.bind_some,hhalf,w64_id (n:=c.Tol / 2) (by omega) (by omega),w64_id (n:=2*(c.Tol / 2)) (by omega) (by omega),w64_id (n:=2*(c.Tol / 2)+1) (by omega) (by omega),need_true (by omega),Option.bind_some,w64_id (n:=2*n+1) (by omega) (by omega),b1,Option.bind_some,Option.bind_some,idx_bang (l:=s) (by omega) (by omega),Option.bind_some,idx_bang (l:=s) (by omega) (by omega),Option.bind_some]
  rw [w64_id (n:=h+s[c.Edges[i]!.A.toNat]!) (by omega) (by omega),w64_id (n:=a.tmod (2*(c.Tol / 2)+1)-c.Tol / 2) (by omega) (by omega),w64_id (n:=h+s[c.Edges[i]!.B.toNat]!) (by omega) (by omega),w64_id (n:=b.tmod (2*(c.Tol / 2)+1)-c.Tol / 2) (by omega) (by omega),w64_id (n:=h+s[c.Edges[i]!.A.toNat]! + _) (by omega) (by omega),w64_id (n:=h+s[c.Edges[i]!.B.toNat]! + _) (by omega) (by omega),need_true (by simp only [List.length_cons,List.length_nil];omega),Option.bind_some,w64_id (n:=n+1) (by omega) (by omega),w64_id (n:=(j:Int)+1) (by omega) (by omega)]
  obtain ⟨v,v1,v2⟩:=ih (j+1) g (n+1) (u++[⟨h+s[c.Edges[i]!.A.toNat]! + (a.tmod (2*(c.Tol / 2)+1)-c.Tol / 2),h+s[c.Edges[i]!.B.toNat]! + (b.tmod (2*(c.Tol / 2)+1)-c.Tol / 2)⟩]) (by omega) (by omega) (by omega) (by omega) (by rw [snoc_len];omega) (fun p hp=>by
   rcases List.mem_append.1 hp with hp|hp
   ·exact hok p hp
   ·rw [List.mem_singleton] at hp
    subst hp
    refine ⟨?_,?_,?_,?_⟩<;>simp only<;>omega)
  refine ⟨v,?_,v2⟩
  rw [show n+((r+1:Nat):Int)=n+1+(r:Int) by omega]
  exact v1

structure EgT (c:Cs) (s:List Int) (x y:Eg):Prop where
 a:y.A=x.A
 b:y.B=x.B
 len:y.Points.length=x.Points.length
 ok:∀p∈y.Points,okT c.Tol s[x.A.toNat]! s[x.B.toNat]! p
theorem e45L2 {k:Nat} (hk:10≤k) {c:Cs} (hv:Val c) {x:S_hachurelaw02qShown} (hh:Big x.High) (ho:Small x.Off) {s:List Int} (hs:inR c s):∀(r i g:Nat) (n:Int) (u:List Eg),r+i=c.Edges.length→r<g→0≤n→n≤4*i→u.length=i→(∀j,j<i→EgT c s c.Edges[j]! u[j]!) →
 ∃v,F45L2 k c x s g (n,(i:Int),u)=some (.inr v)∧v.length=c.Edges.length∧∀j,j<c.Edges.length→EgT c s c.Edges[j]! v[j]! := by
 have hm:=hv.edges
 intro r
 induction r with
 | zero =>
  intro i g n u hr hg hn hn2 hu hok
  obtain ⟨g,rfl⟩:∃q,g=q+1:=⟨g-1,by omega⟩
  refine ⟨u,?_,by omega,fun j hj=>hok j (by omega)⟩
  rw [F45L2]
  dsimp only
  rw [if_neg (by simp;omega)]
 | succ r ih =>
  intro i g n u hr hg hn hn2 hu hok
  obtain ⟨g,rfl⟩:∃q,g=q+1:=⟨g-1,by omega⟩
  have hi:i<c.Edges.length:=by omega
  have he:=hv.eg _ (mem_get hi)
  obtain ⟨v,v1,v2,v3⟩:=e45L3 (k:=k) hv hh ho hs hi (q:=(n,(i:Int),u)) rfl c.Edges[i]!.Points.length 0 k n [] (by omega) (by omega) hn (by omega) rfl (fun p hp=>by simp at hp)
  rw [F45L2]
  dsimp only
  rw [if_pos (by simp;omega),idx_nat hi,Option.bind_some,show F45L3 c x s (n,(i:Int),u) c.Edges[i]! k (n,0,[])=_ from v1,Option.bind_some]
  rw [outK_inr,need_true (by simp only [List.length_cons,List.length_nil];omega),Option.bind_some,w64_id (n:=(i:Int)+1) (by omega) (by omega)]
  refine ih (i+1) g (n+(c.Edges[i]!.Points.length:Nat)) (u++[⟨c.Edges[i]!.A,c.Edges[i]!.B,v⟩]) (by omega) (by omega) (by omega) (by omega) (by rw [snoc_len];omega) (fun j hj=>?_)
  by_cases e:j<u.length
  ·rw [getElem!_pos (u++_) j (by rw [snoc_len];omega),List.getElem_append_left e,←getElem!_pos u j e]
   exact hok j (by omega)
  ·have e2:j=i:=by omega
   subst e2
   have e3:(u++[(⟨c.Edges[j]!.A,c.Edges[j]!.B,v⟩:Eg)])[j]! = ⟨c.Edges[j]!.A,c.Edges[j]!.B,v⟩:=by
    rw [getElem!_pos (u++_) j (by rw [snoc_len];omega),List.getElem_append_right (by omega)]
    simp [hu]
   rw [e3]
   exact ⟨rfl,rfl,v2,v3⟩
theorem e45 {k:Nat} (hk:20≤k) {c:Cs} (hv:Val c) {x:S_hachurelaw02qShown} (h1:Small x.Shifts) (hh:Big x.High) (ho:Small x.Off):∃s es,inR c s∧F45 k c x=some (⟨c.Tol,c.Sheets,es⟩,s.map fun v=>0-v)∧es.length=c.Edges.length∧∀j,j<c.Edges.length→EgT c s c.Edges[j]! es[j]! := by
 have hss:=hv.sheets
 obtain ⟨s,s1,s2⟩:=e37 (k:=k) (by omega) hv h1
 have hsl:=s2.1
 obtain ⟨es,e1,e2,e3⟩:=e45L2 (k:=k) (by omega) hv hh ho s2 c.Edges.length 0 k 0 [] (by omega) (by have:=hv.edges;omega) (by omega) (by omega) rfl (fun j hj=>by omega)
 refine ⟨s,es,s2,?_,e2,e3⟩
 have hb:=for_fold (l:=s) (L:=F45L1 s) (β:=Cs×List Int) (σ:=List Int) (fun i u=>((i:Int),u)) (fun u=>u) (fun _ v u=>u++[0-v]) (fun i u=>u.length=i)
  (fun i u hi hu=>by simp [hu])
  (fun g i u hi hu=>by
   have hr:=s2.2 i (by omega)
   have hmo:=most_ok hv (i:=i) (by omega)
   rw [F45L1]
   dsimp only
   rw [if_pos (decide_eq_true (by omega)),idx_nat hi,Option.bind_some,w64_id (n:=0-s[i]!) (by omega) (by omega),need_true (by simp only [List.length_cons,List.length_nil];omega),Option.bind_some,w64_id (n:=(i:Int)+1) (by omega) (by omega)]
   rfl)
  (fun g u _=>by rw [F45L1,if_neg (by simp)]) k [] rfl (by omega)
 have hm:∀(l:List Int) (i:Nat) (u:List Int),foldI (fun _ v u=>u++[0-v]) l i u=u++l.map fun v=>0-v:=by
  intro l
  induction l with
  | nil=>intro i u;simp [foldI]
  | cons v l ih=>intro i u;rw [foldI,ih];simp
 rw [hm,List.nil_append] at hb
 unfold F45
 rw [s1,Option.bind_some,show F45L1 s k (0,[])=_ from hb,Option.bind_some]
 rw [outK_inr,show F45L2 k c x s k (0,0,[])=_ from e1,Option.bind_some]
 rfl

theorem told_ok {c:Cs} (h:(chk c).2.2=0) {s:List Int} (hs:inR c s) {es:List Eg} (hl:es.length=c.Edges.length) (he:∀j,j<c.Edges.length→EgT c s c.Edges[j]! es[j]!):(chk ⟨c.Tol,c.Sheets,es⟩).2.2=0∧Ag ⟨c.Tol,c.Sheets,es⟩ (s.map fun v=>0-v):=by
 have hv:=chk_val (chk_err h)
 have hc:=chk_zero.1 h
 have hch:(chk ⟨c.Tol,c.Sheets,es⟩).2.2=0:=by
  refine chk_zero.2 ⟨hc.1,hc.2.1,by simp only;omega,hc.2.2.2.1,hc.2.2.2.2.1,fun x hx=>?_⟩
  obtain ⟨j,hj,rfl⟩:=List.getElem_of_mem hx
  have hj':j<c.Edges.length:=by simp only at hj;omega
  have hE:=he j hj'
  have hz:=egE_zero.1 (hc.2.2.2.2.2 _ (mem_get hj'))
  rw [getElem!_pos es j (by simpa using hj)] at hE
  refine egE_zero.2 ⟨by rw [hE.a];exact hz.1,by rw [hE.a];exact hz.2.1,by rw [hE.b];exact hz.2.2.1,by rw [hE.b];exact hz.2.2.2.1,by rw [hE.a,hE.b];exact hz.2.2.2.2.1,by rw [hE.len];exact hz.2.2.2.2.2.1,by rw [hE.len];exact hz.2.2.2.2.2.2.1,fun p hp=>?_⟩
  have:=hE.ok p hp
  exact ⟨this.1.1,this.1.2,this.2.1.1,this.2.1.2⟩
 have hw:=chk_val (chk_err hch)
 have hget:∀i,i<c.Sheets.length→(s.map fun v=>0-v)[i]! = 0-s[i]! := fun i hi=>by
  have:=hs.1
  rw [getElem!_pos _ i (by simp;omega),getElem!_pos s i (by omega)];simp
 refine ⟨hch,by simp [hs.1],fun i hi=>?_,fun i hi hk=>?_⟩
 ·have:=hs.2 i hi
  rw [hget i hi]
  simp only
  omega
 ·have hi':i<c.Edges.length:=by simp only at hi;omega
  have hE:=he i hi'
  have hen:=ends hv hi'
  refine (want_iff hw (mem_get hi) _).2 fun p hp=>?_
  simp only at hp ⊢
  rw [hE.a,hE.b,hget _ (by omega),hget _ (by omega)]
  have:=(hE.ok p hp).2.2
  omega
theorem oddF_eq {c:Cs} {x:List Int} (h:oddF c x<0):oddF c x = -1:=by
 unfold oddF at h ⊢
 cases hf:fstB (fun y => !agB c x y) c.Edges 0 with
 | none=>rfl
 | some j=>rw [hf] at h;simp only at h;omega
theorem e10L1 {k g:Nat} (hk:100≤k) {d:Cs} (h:(chk d).2.2=0) {b:List Int} (hb:Ag d b) {l:List Int×Int×Int} (hl:Ag d l.1) (hg:d.Sheets.length<g):F10L1 k (d,b) l g 0=some (.inr ()):=by
 have hss:=(chk_val (chk_err h)).sheets
 have hbl:=hb.1
 have hll:=hl.1
 have h:=for_loop (l:=b) (L:=F10L1 k (d,b) l) (β:=Bool) (γ:=Unit) (σ:=Unit) (fun i _=>(i:Int)) (fun s=>s) (fun _ _ _ => .inr ()) (fun _ _=>True) (fun _ _ _ _ _ _=>trivial)
  (fun n i s hi _=>by
   obtain ⟨r,r1,r2⟩:=range_in (k:=k) (by omega) h (i:=(i:Int)) (by omega) (by omega)
   rcases r2 with ⟨r3,_⟩|⟨r3,_,_,r4⟩
   ·exact absurd hb (r3 b)
   ·rw [Int.toNat_natCast] at r4
    have h1:=r4 b hb
    have h2:=r4 l.1 hl
    rw [F10L1]
    dsimp only
    rw [if_pos (decide_eq_true (by omega)),show (⟨d.Tol,d.Sheets,d.Edges⟩:S_api_EdCase)=d from rfl,r1,Option.bind_some,r3]
    simp only [bne_self_eq_false,Bool.not_false,optG_true,cond_false]
    rw [idx_nat hi,Option.bind_some,decide_eq_false (show ¬b[i]! < r.1.Lo by omega)]
    simp only [Bool.not_false,optG_true,Option.bind_some,cond_false]
    rw [decide_eq_false (show ¬b[i]! > r.1.Hi by omega)]
    simp only [Bool.not_false,optG_true,cond_false]
    rw [idx_nat (by omega),Option.bind_some,decide_eq_false (show ¬l.1[i]! < r.1.Lo by omega)]
    simp only [Bool.not_false,optG_true,Option.bind_some,cond_false]
    rw [decide_eq_false (show ¬l.1[i]! > r.1.Hi by omega),if_neg (by simp),w64_id (by omega) (by omega)]
    rfl)
  (fun n s _=>by rw [F10L1,if_neg (by simp)]) g () trivial (by omega)
 have hr:∀(l:List Int) (i:Nat),runE (β:=Bool) (fun _ _ (_:Unit) => .inr ()) l i () = .inr ():=by
  intro l
  induction l with
  | nil=>intro i;rfl
  | cons x l ih=>intro i;rw [runE];exact ih (i+1)
 rw [show (0:Int)=((0:Nat):Int) from rfl,h,hr]
 rfl
theorem law10 (c:Cs) (x:S_hachurelaw02qShown) (h1:Small x.Shifts) (hh:Big x.High) (ho:Small x.Off):F10 1000 c x=some true:=by
 unfold F10
 rw [e36 (by omega),Option.bind_some]
 by_cases h:(chk c).2.2=0
 ·have hv:=chk_val (chk_err h)
  obtain ⟨s,es,s1,s2,s3,s4⟩:=e45 (k:=1000) (by omega) hv h1 hh ho
  obtain ⟨hd,hag⟩:=told_ok h s1 s3 s4
  rw [show ((chk c).2.2==0)=true by simpa using h,if_neg (by simp),s2,Option.bind_some]
  generalize hdd:(⟨c.Tol,c.Sheets,es⟩:S_api_EdCase)=d at hd hag ⊢
  generalize hbb:(s.map fun v=>0-v)=b at hag ⊢
  have hvd:=chk_val (chk_err hd)
  have hss:=hvd.sheets
  have hr:=ag_iff.1 hag
  have hce:chE d b=0:=chE_zero.2 ⟨hd,hr.1⟩
  obtain ⟨l,l1,l2⟩:=least_in (k:=1000) (by omega) hd
  obtain ⟨w,w1,w2⟩:=e32 (k:=1000) (by omega) d
  have ha:agreesE d b=(-1,0):=by unfold agreesE;rw [if_neg (by simpa using hce),oddF_eq hr.2]
  have hc:costE d b=(cost d b,0):=by unfold costE;rw [if_neg (by simpa using hce)]
  rw [e20 (by omega),Option.bind_some,e22 (by omega),Option.bind_some,l1,Option.bind_some,w1,Option.bind_some,ha,hc]
  rcases l2 with ⟨l3,_⟩|⟨l3,l4,l5,l6⟩
  ·exact absurd hag (l3 b)
  ·rcases w2 with ⟨w3,_⟩|⟨_,w4,w5,w6,w7⟩
   ·exact absurd hd w3
   ·have hf:Feas d []:=⟨b,hag.1,hag.2.box,fun i hi _=>hag.2.eg i hi (keep0 i)⟩
    have hbet:=w7 [] ⟨List.Pairwise.nil,fun v hv=>by simp at hv⟩ hf
    have hwl:w.1.length=0:=by
     rcases hbet with hb|⟨hb,_⟩
     ·simp at hb
     ·simpa using hb
    have h10:F10e1 (-1,0) (cost d b,0) l w (d,b)=false:=by
     have hle:=(l6 b hag).1
     unfold F10e1
     dsimp only
     rw [l3,w4,hwl,decide_eq_false (show ¬l.2.1>cost d b by omega)]
     have hlen:((l.1.length:Int) != (b.length:Int))=false:=by
      rw [l5.1,hag.1];simp
     rw [hlen]
     rfl
    rw [h10,if_neg (by simp),e10L1 (by omega) hd hag l5 (by omega),Option.bind_some]
    rw [outK_inr,awake]
    rfl
 ·obtain ⟨r,r1,r2⟩:=e32 (k:=1000) (by omega) c
  rw [show ((chk c).2.2==0)=false by simpa using h,if_pos (by rfl),r1,Option.bind_some]
  rcases r2 with ⟨_,rfl⟩|⟨r3,_⟩
  ·simp only [show ((chk c).2.2 != 0)=true by simpa using h,optG_true,awake,Option.bind_some,cond_true]
  ·exact absurd r3 h
end Go.Proofs.Ytallnifoeahpiaa
