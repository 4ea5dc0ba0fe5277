/- The law EdgeTurned. -/
import Derived.Test.YtallnifoeahpiaaRA
import Derived.Test.YtallnifoeahpiaaR7
import Derived.Test.YtallnifoeahpiaaDLM
namespace Go.Proofs.Ytallnifoeahpiaa
open Go Go.Sx
set_option linter.all false
def tP (p:Pt):Pt:=⟨p.B,p.A⟩
def tE (x:Eg):Eg:=⟨x.B,x.A,x.Points.map tP⟩

def tC (k:Nat) (c:Cs):Cs:=⟨c.Tol,c.Sheets,c.Edges.set k (tE c.Edges[k]!)⟩
theorem t_len {k:Nat} {c:Cs}:(tC k c).Edges.length=c.Edges.length:=by simp [tC]
theorem t_get {k j:Nat} {c:Cs} (hk:k<c.Edges.length) (hj:j<c.Edges.length):(tC k c).Edges[j]! = if k=j then tE c.Edges[j]! else c.Edges[j]! := by
 show (c.Edges.set k (tE c.Edges[k]!))[j]! = _
 rw [get_set hk hj]
 by_cases e:k=j
 ·subst e;rfl
 ·rw [if_neg e,if_neg e]
theorem t_chk {k:Nat} {c:Cs} (hk:k<c.Edges.length) (h:(chk c).2.2=0):(chk (tC k c)).2.2=0:=by
 have hc:=chk_zero.1 h
 refine chk_zero.2 ⟨hc.1,hc.2.1,by rw [t_len];exact hc.2.2.1,hc.2.2.2.1,hc.2.2.2.2.1,fun x hx=>?_⟩
 obtain ⟨j,hj,rfl⟩:=List.getElem_of_mem hx
 have hj':j<c.Edges.length:=by rw [t_len] at hj;exact hj
 have hz:=hc.2.2.2.2.2 _ (mem_get hj')
 have e:=t_get hk hj'
 rw [getElem!_pos _ j hj] at e
 rw [e]
 by_cases e:k=j
 ·rw [if_pos e]
  have:=egE_zero.1 hz
  refine egE_zero.2 ⟨this.2.2.1,this.2.2.2.1,this.1,this.2.1,fun he=>this.2.2.2.2.1 he.symm,by simp only [tE,List.length_map];omega,by simp only [tE,List.length_map];omega,fun p hp=>?_⟩
  simp only [tE,List.mem_map] at hp
  obtain ⟨q,hq,rfl⟩:=hp
  have:=this.2.2.2.2.2.2.2 q hq
  simp only [tP]
  omega
 ·rw [if_neg e];exact hz

theorem t_acc {k j:Nat} {c:Cs} (hk:k<c.Edges.length) (hj:j<c.Edges.length) (hv:Val c) (hw:Val (tC k c)) (d:Int):acc (tC k c) (tC k c).Edges[j]! (if k=j then -d else d)↔acc c c.Edges[j]! d:=by
 have h1:=want_iff hv (mem_get hj) d
 have h2:=want_iff hw (mem_get (l:=(tC k c).Edges) (by rw [t_len];exact hj)) (if k=j then -d else d)
 unfold acc
 rw [h1,h2,t_get hk hj]
 have ht:(tC k c).Tol=c.Tol:=rfl
 by_cases e:k=j
 ·rw [if_pos e,if_pos e]
  constructor
  ·intro h p hp
   have:=h (tP p) (List.mem_map_of_mem hp)
   simp only [tP] at this
   omega
  ·intro h q hq
   obtain ⟨p,hp,rfl⟩:=List.mem_map.1 hq
   have:=h p hp
   simp only [tP]
   omega
 ·rw [if_neg e,if_neg e]
  constructor
  ·intro h p hp;have:=h p hp;omega
  ·intro h p hp;have:=h p hp;omega
theorem t_ag {k:Nat} {c:Cs} (hk:k<c.Edges.length) (hv:Val c) (hw:Val (tC k c)) (x:List Int):Ag (tC k c) x↔Ag c x:=by
 unfold Ag
 rw [fe_acc,fe_acc,t_len]
 have key:∀i,i<c.Edges.length→(acc (tC k c) (tC k c).Edges[i]! (x[(tC k c).Edges[i]!.A.toNat]! - x[(tC k c).Edges[i]!.B.toNat]!)↔acc c c.Edges[i]! (x[c.Edges[i]!.A.toNat]! - x[c.Edges[i]!.B.toNat]!)):=fun i hi=>by
  rw [←t_acc hk hi hv hw,t_get hk hi]
  by_cases e:k=i
  ·rw [if_pos e,if_pos e]
   rw [show x[(tE c.Edges[i]!).A.toNat]! - x[(tE c.Edges[i]!).B.toNat]! = -(x[c.Edges[i]!.A.toNat]! - x[c.Edges[i]!.B.toNat]!) by simp only [tE];omega]
  ·rw [if_neg e,if_neg e]
 exact ⟨fun h=>⟨h.1,h.2.1,fun i hi=>(key i hi).1 (h.2.2 i hi)⟩,fun h=>⟨h.1,h.2.1,fun i hi=>(key i hi).2 (h.2.2 i hi)⟩⟩

theorem t_ends {k j:Nat} {c:Cs} (hk:k<c.Edges.length) (hj:j<c.Edges.length) (hv:Val c) (hw:Val (tC k c)):(lo c j≤hi c j→if k=j then lo (tC k c) j = -hi c j∧hi (tC k c) j = -lo c j else lo (tC k c) j=lo c j∧hi (tC k c) j=hi c j)∧(¬lo c j≤hi c j→¬lo (tC k c) j≤hi (tC k c) j):=by
 have ha:=t_acc hk hj hv hw
 by_cases e:k=j
 ·have hset:∀d,(-hi c j≤d∧d ≤ -lo c j)↔(lo (tC k c) j≤d∧d≤hi (tC k c) j):=fun d=>by
   have:=ha (-d)
   rw [if_pos e,Int.neg_neg] at this
   have h2:(lo (tC k c) j≤d∧d≤hi (tC k c) j)↔(lo c j ≤ -d ∧ -d≤hi c j):=this
   rw [h2];omega
  refine ⟨fun h=>?_,fun h=>itv_none (by omega) hset⟩
  rw [if_pos e]
  exact itv_eq (by omega) hset
 ·have hset:∀d,(lo c j≤d∧d≤hi c j)↔(lo (tC k c) j≤d∧d≤hi (tC k c) j):=fun d=>by
   have:=ha d
   rw [if_neg e] at this
   exact this.symm
  refine ⟨fun h=>?_,fun h=>itv_none h hset⟩
  rw [if_neg e]
  exact itv_eq h hset
theorem sound_iff {c:Cs}:soundB c=true↔∀i,i<c.Edges.length→lo c i≤hi c i:=by
 unfold soundB
 rw [List.all_eq_true]
 constructor
 ·intro h i hi';exact of_decide_eq_true (h _ (mem_get hi'))
 ·intro h x hx
  obtain ⟨i,hi',rfl⟩:=List.getElem_of_mem hx
  have:=h i hi'
  unfold lo hi at this
  rw [getElem!_pos c.Edges i hi'] at this
  exact decide_eq_true this
theorem t_bound {k:Nat} {c:Cs} (hk:k<c.Edges.length) (hv:Val c) (hw:Val (tC k c)) {p:List Int} (hl:p.length=c.Edges.length) (hs:∀i,i<c.Edges.length→lo c i≤hi c i):bound (tC k c) (p.set k (-p[k]!))=bound c p:=by
 have hget:∀i,i<c.Edges.length→(p.set k (-p[k]!))[i]! = if k=i then -p[i]! else p[i]! := fun i hi=>by
  rw [get_set (by omega) (by omega)]
  by_cases e:k=i
  ·rw [if_pos e,if_pos e,e]
  ·rw [if_neg e,if_neg e]
 have hcnt:∀i,i<c.Edges.length→cnt (tC k c) (p.set k (-p[k]!)) i=cnt c p i:=fun i hi=>by
  have ht:=(t_ends hk hi hv hw).1 (hs i hi)
  unfold cnt
  rw [hget i hi]
  by_cases e:k=i
  ·rw [if_pos e] at ht
   rw [if_pos e,ht.1,ht.2]
   by_cases h1:p[i]! > 0
   ·rw [if_neg (by omega),if_pos h1,Int.neg_mul_neg]
   ·by_cases h2:p[i]! = 0
    ·rw [h2];simp
    ·rw [if_pos (by omega),if_neg h1,Int.neg_mul_neg]
  ·rw [if_neg e] at ht
   rw [if_neg e,ht.1,ht.2]
 have hgv:∀j,gv (tC k c) (p.set k (-p[k]!)) j=gv c p j:=fun j=>by
  unfold gv gvp
  rw [t_len]
  refine sumN_congr fun i hi=>?_
  rw [hget i hi,t_get hk hi]
  by_cases e:k=i
  ·rw [if_pos e,if_pos e]
   show (if c.Edges[i]!.B=(j:Int) then -p[i]! else 0)-(if c.Edges[i]!.A=(j:Int) then -p[i]! else 0)=(if c.Edges[i]!.A=(j:Int) then p[i]! else 0)-(if c.Edges[i]!.B=(j:Int) then p[i]! else 0)
   by_cases a1:c.Edges[i]!.A=(j:Int)
   ·by_cases a2:c.Edges[i]!.B=(j:Int)
    ·rw [if_pos a1,if_pos a1,if_pos a2,if_pos a2];omega
    ·rw [if_pos a1,if_pos a1,if_neg a2,if_neg a2];omega
   ·by_cases a2:c.Edges[i]!.B=(j:Int)
    ·rw [if_neg a1,if_neg a1,if_pos a2,if_pos a2];omega
    ·rw [if_neg a1,if_neg a1,if_neg a2,if_neg a2]
  ·rw [if_neg e,if_neg e]
 unfold bound
 rw [t_len,sumN_congr hcnt]
 congr 1
 exact sumN_congr fun j _=>by
  show off c (gv (tC k c) (p.set k (-p[k]!))) j=_
  unfold off
  rw [hgv]
theorem foldI_map {α β:Type} (f:α→β):∀(l:List α) (i:Nat) (s:List β),foldI (fun _ x s=>s++[f x]) l i s=s++l.map f:=by
 intro l
 induction l with
 | nil=>intro i s;simp [foldI]
 | cons x l ih=>intro i s;rw [foldI,ih];simp
theorem wantsE_in {c:Cs} (h:(chk c).2.2=0) {i:Nat} (hi':i<c.Edges.length):wantsE c (i:Int)=if lo c i≤hi c i then (⟨lo c i,hi c i⟩,0) else (⟨0,0⟩,9):=by
 unfold wantsE
 rw [if_neg (by simpa using h),okN_iff.2 (by omega),if_pos rfl,Int.toNat_natCast]

def Mid (x:List Int):Prop:=(∀v∈x,-32768≤v∧v≤32767)∧x.length≤9223372036854775807
theorem e15L2 {k:Nat} {c:Cs} (hk:10≤k) (hm:c.Edges.length≤8) {p:List Int} (hp:Mid p):∃o,F15L2 c p k (0,[],[])=some (.inr (o,o))∧o.length=c.Edges.length∧∀v∈o,-32768≤v∧v≤32767:=by
 have key:∀(r i g:Nat) (s:List Int),r+i=c.Edges.length→r<g→s.length=i→(∀v∈s,-32768≤v∧v≤32767)→∃o,F15L2 c p g ((i:Int),s,s)=some (.inr (o,o))∧o.length=c.Edges.length∧∀v∈o,-32768≤v∧v≤32767:=by
  intro r
  induction r with
  | zero =>
   intro i g s hi hg hs hb
   obtain ⟨g,rfl⟩:∃q,g=q+1:=⟨g-1,by omega⟩
   rw [F15L2]
   dsimp only
   rw [if_neg (by simp;omega)]
   exact ⟨s,rfl,by omega,hb⟩
  | succ r ih =>
   intro i g s hi hg hs hb
   obtain ⟨g,rfl⟩:∃q,g=q+1:=⟨g-1,by omega⟩
   rw [F15L2]
   dsimp only
   rw [if_pos (by simp;omega),w64_id (n:=(i:Int)+1) (by omega) (by omega)]
   by_cases hz:p.length=0
   ·rw [if_neg (by simp [hz]),need_true (by simp only [List.length_cons,List.length_nil];omega),Option.bind_some,Option.bind_some]
    exact ih (i+1) g (s++[0]) (by omega) (by omega) (by simp;omega) (fun v hv=>by
     rcases List.mem_append.1 hv with hv|hv
     ·exact hb v hv
     ·rw [List.mem_singleton] at hv;omega)
   ·have hpos:(0:Int)<(p.length:Int):=by omega
    have ht:=tmod_in (n:=(i:Int)) (m:=(p.length:Int)) (by omega) hpos
    have hx:=hp.1 _ (mem_get (l:=p) (i:=((i:Int).tmod (p.length:Int)).toNat) (by omega))
    rw [if_pos (decide_eq_true (by omega)),need_true (by omega),Option.bind_some,idx_bang ht.1 ht.2,Option.bind_some,i64_id (by omega) (by omega),need_true (by simp only [List.length_cons,List.length_nil];omega),Option.bind_some,Option.bind_some]
    exact ih (i+1) g (s++[p[((i:Int).tmod (p.length:Int)).toNat]!]) (by omega) (by omega) (by simp;omega) (fun v hv=>by
     rcases List.mem_append.1 hv with hv|hv
     ·exact hb v hv
     ·rw [List.mem_singleton] at hv;omega)
 exact key c.Edges.length 0 k [] (by omega) (by omega) rfl (fun v hv=>by simp at hv)
theorem e15L1 {k:Nat} {c:Cs} (hk:10≤k) (hv:Val c) {which:S__2quint8} {j:Nat} (hj:j<c.Edges.length) (hw:(IntKind.i64.wrap which.e0).tmod (c.Edges.length:Int)=(j:Int)):F15L1 c which k (0,[])=some (.inr (c.Edges[j]!.Points.map tP)):=by
 have he:=hv.eg _ (mem_get hj)
 have h:=for_fold (l:=c.Edges[j]!.Points) (L:=F15L1 c which) (β:=Bool) (σ:=List Pt) (fun i u=>((i:Int),u)) (fun u=>u) (fun _ p u=>u++[tP p]) (fun i u=>u.length=i)
  (fun i u hi hu=>by simp [hu])
  (fun g i u hi hu=>by
   rw [F15L1]
   dsimp only
   rw [hw,idx_nat hj,Option.bind_some,if_pos (decide_eq_true (by omega))]
   simp only [Option.bind_some,idx_nat hi]
   rw [need_true (by simp only [List.length_cons,List.length_nil];omega),Option.bind_some,w64_id (n:=(i:Int)+1) (by omega) (by omega)]
   rfl)
  (fun g u _=>by
   rw [F15L1]
   dsimp only
   rw [hw,idx_nat hj,Option.bind_some,if_neg (by simp)]) k [] rfl (by omega)
 rw [show ((0:Int),([]:List Pt))=(((0:Nat):Int),[]) from rfl,h,foldI_map,List.nil_append]
theorem boundE_in {c:Cs} (h:(chk c).2.2=0) {p:List Int} (hl:p.length=c.Edges.length) (hp:okPr p):boundE c p=if soundB c=true then (bound c p,0) else (0,9):=by
 unfold boundE
 rw [if_neg (by simpa using h),if_pos hl,okPr_iff.2 hp,if_pos rfl]
theorem law15 (c:Cs) (p:List Int) (which:S__2quint8) (hp:Mid p) (h0:0≤which.e0∧which.e0≤255) (h1:0≤which.e1∧which.e1≤255):F15 1000 c p which=some true:=by
 unfold F15
 rw [e36 (by omega),Option.bind_some]
 by_cases h:(chk c).2.2=0∧c.Edges.length≠0
 ·obtain ⟨h,hne⟩:=h
  have hv:=chk_val (chk_err h)
  have hs:=hv.sheets
  have hm:=hv.edges
  obtain ⟨k0,k1⟩:=tmod_in (n:=which.e0) (m:=(c.Edges.length:Int)) h0.1 (by omega)
  obtain ⟨i0,i1⟩:=tmod_in (n:=which.e1) (m:=(c.Sheets.length:Int)) h1.1 (by omega)
  obtain ⟨j,hj⟩:∃j:Nat,which.e0.tmod (c.Edges.length:Int)=(j:Int):=⟨(which.e0.tmod (c.Edges.length:Int)).toNat,by omega⟩
  have hjl:j<c.Edges.length:=by omega
  have hch:=t_chk hjl h
  have hw:=chk_val (chk_err hch)
  have hwj:(IntKind.i64.wrap which.e0).tmod (c.Edges.length:Int)=(j:Int):=by rw [i64_id (by omega) (by omega)];exact hj
  rw [show ((chk c).2.2==0)=true by simpa using h,show (((c.Edges.length:Nat):Int)==0)=false by simpa using hne,if_neg (by simp),need_true (by omega),Option.bind_some,need_true (by omega),Option.bind_some,need_true (by simp only [List.length_nil];omega),Option.bind_some]
  rw [hwj,idx_nat hjl,Option.bind_some,Option.bind_some,e15L1 (by omega) hv hjl hwj,Option.bind_some]
  rw [outK_inr,List.nil_append,idx_nat hjl,Option.bind_some,Int.toNat_natCast]
  rw [show (⟨c.Tol,c.Sheets,c.Edges.set j (⟨c.Edges[j]!.B,c.Edges[j]!.A,c.Edges[j]!.Points.map tP⟩:S_api_EdEdge)⟩:S_api_EdCase)=tC j c from rfl,i64_id (n:=which.e1) (by omega) (by omega)]
  generalize which.e1.tmod (c.Sheets.length:Int)=iz at i0 i1
  rw [e18 (by omega) c _ (by omega),Option.bind_some,e18 (by omega) _ _ (by rw [t_len];omega),Option.bind_some,wantsE_in h hjl,wantsE_in hch (by rw [t_len];exact hjl)]
  have hwb:=want_bound hv (mem_get hjl)
  have hlb : -18000≤lo c j∧lo c j≤9000 ∧ -9000≤hi c j∧hi c j≤18000:=hwb
  have hends:=t_ends hjl hjl hv hw
  obtain ⟨r,r1,r2⟩:=e25 (k:=1000) (by omega) c iz (by omega)
  obtain ⟨q,q1,q2⟩:=e25 (k:=1000) (by omega) (tC j c) iz (by show c.Sheets.length≤_;omega)
  obtain ⟨s,s1,s2⟩:=e27 (k:=1000) (by omega) c
  obtain ⟨u,u1,u2⟩:=e27 (k:=1000) (by omega) (tC j c)
  have e1:=(r2.same h hch rfl (t_ag hjl hv hw)).eq q2
  have e2:=(s2.same h hch rfl (t_ag hjl hv hw)).eq u2
  subst e1;subst e2
  have hlen:=s2.len
  obtain ⟨o,o1,o2,o3⟩:=e15L2 (k:=1000) (by omega) hm hp
  have hoj:=o3 _ (mem_get (l:=o) (i:=j) (by omega))
  have hrest:∀b:Bool,b=true→((F25 1000 c iz).bind fun x25=>(F25 1000 (tC j c) iz).bind fun x26=>(F27 1000 c).bind fun x27=>(F27 1000 (tC j c)).bind fun x28=>(optG (!(cond (!((x25.1.Lo==x26.1.Lo)&&(x25.1.Hi==x26.1.Hi))) true (x25.2 != x26.2))) (F29 1000 x27.1 x28.1)).bind fun x29=>if (cond (cond (cond (cond (!((x25.1.Lo==x26.1.Lo)&&(x25.1.Hi==x26.1.Hi))) true (x25.2 != x26.2)) true (!x29)) true (x27.2.1 != x28.2.1)) true (x27.2.2 != x28.2.2)) then (some false) else ((F15L2 c p 1000 (0,([]:List Int),([]:List Int))).bind fun o33=>outK o33 (fun (ro33:Bool)=>some ro33) (fun (so33:(List Int)×(List Int))=>(idx so33.2 (j:Int)).bind fun x44=>(idx so33.2 (j:Int)).bind fun x45=>(F30 1000 c so33.1).bind fun x46=>(F30 1000 (tC j c) (so33.2.set j (w64 (0-x44)))).bind fun x47=>(optG (cond (x46.1==x47.1) (x46.2==x47.2) false) (F24 1000)).bind fun x48=>some (cond (cond (x46.1==x47.1) (x46.2==x47.2) false) x48 false))))=some b:=by
   intro b hb
   subst hb
   rw [r1,Option.bind_some,q1,Option.bind_some,s1,Option.bind_some,u1,Option.bind_some]
   simp only [beq_self_eq_true,Bool.and_self,Bool.not_true,cond_false,bne_self_eq_false,Bool.not_false,optG_true]
   rw [e29 (by omega) (by omega),Option.bind_some]
   simp only [Bool.not_true,cond_false,Bool.false_eq_true,if_false]
   rw [o1,Option.bind_some]
   simp only [outK]
   rw [idx_nat (by omega),Option.bind_some,Option.bind_some,w64_id (n:=0-o[j]!) (by omega) (by omega),show 0-o[j]! = -o[j]! by omega,e30 (by omega),Option.bind_some,e30 (by omega),Option.bind_some]
   have hok:o.all (okN (-100000) 100000)=true:=okPr_iff.2 fun v hv=>by have:=o3 v hv;omega
   have hok2:(o.set j (-o[j]!)).all (okN (-100000) 100000)=true:=okPr_iff.2 fun v hv=>by
    rcases List.mem_or_eq_of_mem_set hv with h|h
    ·have:=o3 v h;omega
    ·omega
   have heq:boundE (tC j c) (o.set j (-o[j]!))=boundE c o:=by
    rw [boundE_in h o2 (okPr_iff.1 hok),boundE_in hch (by rw [List.length_set,t_len];exact o2) (okPr_iff.1 hok2)]
    by_cases hsd:soundB c=true
    ·have hall:=sound_iff.1 hsd
     have hsd2:soundB (tC j c)=true:=sound_iff.2 fun i hi'=>by
      rw [t_len] at hi'
      have:=(t_ends hjl hi' hv hw).1 (hall i hi')
      have h3:=hall i hi'
      split at this<;>omega
     rw [hsd,hsd2,t_bound hjl hv hw o2 hall]
    ·have hsd2:¬soundB (tC j c)=true:=fun hh=>hsd (sound_iff.2 fun i hi'=>by
      apply Classical.byContradiction
      intro hn
      exact (t_ends hjl hi' hv hw).2 hn (sound_iff.1 hh i (by rw [t_len];exact hi')))
     rw [if_neg hsd,if_neg hsd2]
   rw [heq]
   simp only [beq_self_eq_true,cond_true,optG_true,awake,Option.bind_some]
  by_cases hle:lo c j≤hi c j
  ·have ht:=hends.1 hle
   rw [if_pos rfl] at ht
   rw [if_pos hle,if_pos (by omega),ht.1,ht.2]
   simp only [bne_self_eq_false,Bool.not_false,optG_true]
   rw [w64_id (n:=0-hi c j) (by omega) (by omega),w64_id (n:=0-lo c j) (by omega) (by omega)]
   simp only [F35,Option.bind_some]
   rw [if_neg (by simp [show 0-hi c j = -hi c j by omega,show 0-lo c j = -lo c j by omega])]
   exact hrest true rfl
  ·rw [if_neg hle,if_neg (hends.2 hle)]
   simp only [bne_self_eq_false,Bool.not_false,optG_true]
   rw [show w64 (0-0)=0 from rfl]
   simp only [F35,Option.bind_some]
   rw [if_neg (by simp)]
   exact hrest true rfl
 ·rw [if_pos (by
   by_cases hc:(chk c).2.2=0
   ·have:c.Edges.length=0:=Classical.byContradiction fun hh=>h ⟨hc,hh⟩
    rw [this]
    cases (!((chk c).2.2==0))<;>rfl
   ·rw [show ((chk c).2.2==0)=false by simpa using hc];rfl),awake]
  rfl
end Go.Proofs.Ytallnifoeahpiaa
