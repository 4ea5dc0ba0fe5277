/- Bounds of proofs: the program's. -/
import Derived.Test.YtallnifoeahpiaaPN
import Derived.Test.YtallnifoeahpiaaDEE
namespace Go.Proofs.Ytallnifoeahpiaa
open Go Go.Sx
set_option linter.all false

theorem mul_bd {a b:Int} {A B:Nat} (ha : -(A:Int)≤a∧a≤A) (hb : -(B:Int)≤b∧b≤B) : -((A*B:Nat):Int)≤a*b∧a*b≤((A*B:Nat):Int):=by
 have h1:a.natAbs≤A:=by omega
 have h2:b.natAbs≤B:=by omega
 have h3:(a*b).natAbs≤A*B:=by rw [Int.natAbs_mul];exact Nat.mul_le_mul h1 h2
 omega

def gvp (c:Cs) (p:List Int) (e:Nat) (j:Nat):Int:=sumN e fun i=>(if c.Edges[i]!.A=(j:Int) then p[i]! else 0)-(if c.Edges[i]!.B=(j:Int) then p[i]! else 0)
def gv (c:Cs) (p:List Int) (j:Nat):Int:=gvp c p c.Edges.length j

def cnt (c:Cs) (p:List Int) (i:Nat):Int:=if p[i]! > 0 then p[i]! * lo c i else p[i]! * hi c i

def off (c:Cs) (g:Nat→Int) (j:Nat):Int:=c.Sheets[j]!.Most*(if absI (g j)-c.Sheets[j]!.Weight>0 then absI (g j)-c.Sheets[j]!.Weight else 0)
def bound (c:Cs) (p:List Int):Int:=sumN c.Edges.length (cnt c p)-sumN c.Sheets.length (off c (gv c p))

def okPr (p:List Int):Prop:=∀v∈p,-100000≤v∧v≤100000
def soundB (c:Cs):Bool:=c.Edges.all fun x=>decide ((want c x).1≤(want c x).2)
theorem gvp_bd {c:Cs} (hv:Val c) {p:List Int} (hp:okPr p) (hl:p.length=c.Edges.length) (j:Nat):∀e,e≤c.Edges.length → -(100000*(e:Int))≤gvp c p e j∧gvp c p e j≤100000*e:=by
 intro e
 induction e with
 | zero=>intro _;simp [gvp,sumN]
 | succ e ih =>
  intro he
  have h1:=ih (by omega)
  have h2:=hp _ (mem_get (l:=p) (i:=e) (by omega))
  have h3:=(hv.eg _ (mem_get (l:=c.Edges) (i:=e) (by omega))).2.2.2.2.1
  unfold gvp at h1 ⊢
  rw [sumN]
  split<;>split<;>omega
theorem cnt_bd {c:Cs} (hv:Val c) {p:List Int} (hp:okPr p) (hl:p.length=c.Edges.length) {i:Nat} (hi':i<c.Edges.length):(-1800000000≤p[i]! * lo c i∧p[i]! * lo c i≤1800000000) ∧ -1800000000≤p[i]! * hi c i∧p[i]! * hi c i≤1800000000:=by
 have h1:=hp _ (mem_get (l:=p) (i:=i) (by omega))
 have h2:=want_bound hv (mem_get hi')
 have e1:=mul_bd (a:=p[i]!) (b:=lo c i) (A:=100000) (B:=18000) (by omega) (by unfold lo;omega)
 have e2:=mul_bd (a:=p[i]!) (b:=hi c i) (A:=100000) (B:=18000) (by omega) (by unfold hi;omega)
 omega
theorem off_bd {c:Cs} (hv:Val c) {g:Nat→Int} {j:Nat} (hj:j<c.Sheets.length) (hg : -800000≤g j∧g j≤800000):0≤off c g j∧off c g j≤4800000:=by
 have hm:=most_ok hv hj
 have ha:=absI_nonneg (g j)
 have ha2:absI (g j)≤800000:=absI_le.2 hg
 have e:=mul_bd (a:=c.Sheets[j]!.Most) (b:=if absI (g j)-c.Sheets[j]!.Weight>0 then absI (g j)-c.Sheets[j]!.Weight else 0) (A:=6) (B:=800000) (by omega) (by split<;>omega)
 refine ⟨Int.mul_nonneg hm.1 (by split<;>omega),?_⟩
 unfold off
 omega

def gstep (c:Cs) (p:List Int) (i:Nat) (s:List Int):List Int:=(s.set c.Edges[i]!.A.toNat (s[c.Edges[i]!.A.toNat]! + p[i]!)).set c.Edges[i]!.B.toNat (s[c.Edges[i]!.B.toNat]! - p[i]!)
theorem gstep_ok {c:Cs} (hv:Val c) {p:List Int} {n i:Nat} (hn:c.Sheets.length≤n) (hi':i<c.Edges.length) {s:List Int} (hs:s.length=n∧∀j,j<n→s[j]! = gvp c p i j):(gstep c p i s).length=n∧∀j,j<n→(gstep c p i s)[j]! = gvp c p (i+1) j:=by
 have he:=ends hv hi'
 have hne:=(hv.eg _ (mem_get hi')).2.2.2.2.1
 unfold gstep
 refine ⟨by simp [hs.1],fun j hj=>?_⟩
 rw [get_set (by rw [List.length_set];omega) (by rw [List.length_set];omega),get_set (by omega) (by omega)]
 have h1:=hs.2 c.Edges[i]!.A.toNat (by omega)
 have h2:=hs.2 c.Edges[i]!.B.toNat (by omega)
 have h3:=hs.2 j hj
 unfold gvp
 rw [sumN]
 unfold gvp at h1 h2 h3
 by_cases eB:c.Edges[i]!.B.toNat=j
 ·rw [if_pos eB,if_neg (show ¬c.Edges[i]!.A=(j:Int) by omega),if_pos (show c.Edges[i]!.B=(j:Int) by omega),h2,eB];omega
 ·rw [if_neg eB]
  by_cases eA:c.Edges[i]!.A.toNat=j
  ·rw [if_pos eA,if_pos (show c.Edges[i]!.A=(j:Int) by omega),if_neg (show ¬c.Edges[i]!.B=(j:Int) by omega),h1,eA];omega
  ·rw [if_neg eA,if_neg (show ¬c.Edges[i]!.A=(j:Int) by omega),if_neg (show ¬c.Edges[i]!.B=(j:Int) by omega),h3];omega
theorem cnts_bd {c:Cs} (hv:Val c) {p:List Int} (hp:okPr p) (hl:p.length=c.Edges.length):∀e,e≤c.Edges.length → -(1800000000*(e:Int))≤sumN e (cnt c p)∧sumN e (cnt c p)≤1800000000*e:=by
 intro e
 induction e with
 | zero=>intro _;simp [sumN]
 | succ e ih =>
  intro he
  have h1:=ih (by omega)
  have h2:=cnt_bd hv hp hl (i:=e) (by omega)
  rw [sumN]
  unfold cnt
  split<;>(unfold cnt at h1;omega)
theorem e69L1 {k:Nat} {c:Cs} (hk:10≤k) (hv:Val c) {p:List Int} (hp:okPr p) (hl:p.length=c.Edges.length):∃g,F69L1 p c.Edges (wl c) k (0,0,List.replicate 5 0)=some (.inr (sumN c.Edges.length (cnt c p),g))∧g.length=5∧∀j,j<5→g[j]! = gv c p j:=by
 have hs:=hv.sheets
 have hm:=hv.edges
 have hP:∀(i:Nat) (s:Int×List Int),i<c.Edges.length→(s.1=sumN i (cnt c p)∧s.2.length=5∧∀j,j<5→s.2[j]! = gvp c p i j)→((s.1+cnt c p i)=sumN (i+1) (cnt c p)∧(gstep c p i s.2).length=5∧∀j,j<5→(gstep c p i s.2)[j]! = gvp c p (i+1) j):=fun i s hi h=>⟨by rw [sumN,h.1],gstep_ok hv hs.2 hi h.2⟩
 have h:=for_fold (l:=c.Edges) (L:=F69L1 p c.Edges (wl c)) (β:=Int) (σ:=Int×List Int) (fun i s=>(s.1,(i:Int),s.2)) (fun s=>s) (fun i _ s=>(s.1+cnt c p i,gstep c p i s.2)) (fun i s=>s.1=sumN i (cnt c p)∧s.2.length=5∧∀j,j<5→s.2[j]! = gvp c p i j)
  (fun i s hi h=>hP i s hi h)
  (fun n i s hi h=>by
   have he:=ends hv hi
   have hne:=(hv.eg _ (mem_get hi)).2.2.2.2.1
   have hw:=(wl_inv hv.edges).2 i hi
   have hb:=cnts_bd hv hp hl i (by omega)
   have hc:=cnt_bd hv hp hl hi
   have hpi:=hp _ (mem_get (l:=p) (i:=i) (by omega))
   have gA:=h.2.2 c.Edges[i]!.A.toNat (by omega)
   have gB:=h.2.2 c.Edges[i]!.B.toNat (by omega)
   have bA:=gvp_bd hv hp hl c.Edges[i]!.A.toNat i (by omega)
   have bB:=gvp_bd hv hp hl c.Edges[i]!.B.toNat i (by omega)
   have hsl:=h.2.1
   have hs1:=h.1
   have hset:∀y,(s.2.set c.Edges[i]!.A.toNat y)[c.Edges[i]!.B.toNat]! = s.2[c.Edges[i]!.B.toNat]! := fun y=>by rw [get_set (by omega) (by omega),if_neg (by omega)]
   rw [F69L1]
   dsimp only
   rw [if_pos (by simp;omega),idx_nat hi,Option.bind_some,need_true (by omega),Option.bind_some,Nat.zero_add,Nat.mul_one,get_some (by omega),Option.bind_some,idx_nat (by omega),Option.bind_some,need_true (by omega),Option.bind_some,Option.bind_some,need_true (by omega),Option.bind_some,Nat.zero_add,Nat.mul_one,get_some (by rw [List.length_set];omega),Option.bind_some,Option.bind_some,Option.bind_some]
   simp only [Option.bind_some]
   rw [hset,w64_id (n:=s.2[c.Edges[i]!.A.toNat]! + p[i]!) (by omega) (by omega),w64_id (n:=s.2[c.Edges[i]!.B.toNat]! - p[i]!) (by omega) (by omega),w64_id (n:=(i:Int)+1) (by omega) (by omega)]
   by_cases hpos:p[i]! > 0
   ·have hcn:cnt c p i=p[i]! * lo c i:=if_pos hpos
    rw [if_pos (decide_eq_true hpos),Int.toNat_natCast,hw.1,Option.bind_some,w64_id (n:=p[i]! * lo c i) (by omega) (by omega),w64_id (n:=s.1+_) (by omega) (by omega),hcn]
    rfl
   ·have hcn:cnt c p i=p[i]! * Ytallnifoeahpiaa.hi c i:=if_neg hpos
    rw [if_neg (by rw [decide_eq_false hpos];simp),Int.toNat_natCast,hw.2,Option.bind_some,w64_id (n:=p[i]! * Ytallnifoeahpiaa.hi c i) (by omega) (by omega),w64_id (n:=s.1+_) (by omega) (by omega),hcn]
    rfl)
  (fun n s _=>by rw [F69L1,if_neg (by simp)]) k (0,List.replicate 5 0) ⟨rfl,by simp,fun j hj=>by rw [get_rep hj];rfl⟩ (by omega)
 have h2:=foldI_inv (l:=c.Edges) (fun i (_:Eg) (s:Int×List Int)=>(s.1+cnt c p i,gstep c p i s.2)) (fun i s=>s.1=sumN i (cnt c p)∧s.2.length=5∧∀j,j<5→s.2[j]! = gvp c p i j) (fun i s hi h=>hP i s hi h) (0,List.replicate 5 0) ⟨rfl,by simp,fun j hj=>by rw [get_rep hj];rfl⟩
 refine ⟨_,?_,h2.2⟩
 have h3:F69L1 p c.Edges (wl c) k (0,0,List.replicate 5 0)=_:=h
 rw [h3]
 congr 2
 exact Prod.ext h2.1 rfl
end Go.Proofs.Ytallnifoeahpiaa
namespace Go.Proofs.Ytallnifoeahpiaa
open Go Go.Sx
set_option linter.all false

theorem offs_bd {c:Cs} (hv:Val c) {g:Nat→Int} (hg:∀j,j<c.Sheets.length → -800000≤g j∧g j≤800000):∀n,n≤c.Sheets.length→0≤sumN n (off c g)∧sumN n (off c g)≤4800000*n:=by
 intro n
 induction n with
 | zero=>intro _;simp [sumN]
 | succ n ih =>
  intro hn
  have h1:=ih (by omega)
  have h2:=off_bd hv (by omega:n<c.Sheets.length) (hg n (by omega))
  rw [sumN]
  omega
theorem off_congr {c:Cs} {g h:Nat→Int} {j:Nat} (e:g j=h j):off c g j=off c h j:=by unfold off;rw [e]
theorem absI_neg (n:Int):(if 0-n>n then 0-n else n)=absI n:=rfl
theorem e69L2 {k:Nat} {c:Cs} (hk:10≤k) (hv:Val c) {g:List Int} {n0:Int} (hn : -15000000000≤n0∧n0≤15000000000) (hg5:g.length=5) (hg:∀j,j<c.Sheets.length → -800000≤g[j]! ∧ g[j]! ≤ 800000):F69L2 c.Sheets (n0,g) k (n0,0)=some (.inr (n0-sumN c.Sheets.length (off c fun j=>g[j]!))):=by
 have hs:=hv.sheets
 have h:=for_fold (l:=c.Sheets) (L:=F69L2 c.Sheets (n0,g)) (β:=Int) (σ:=Int) (fun i s=>(s,(i:Int))) (fun s=>s) (fun i _ s=>s-off c (fun j=>g[j]!) i) (fun i s=>s=n0-sumN i (off c fun j=>g[j]!))
  (fun i s hi hp=>by rw [hp,sumN];omega)
  (fun n i s hi hp=>by
   have hmo:=most_ok hv hi
   have hgi:=hg i hi
   have hb:0≤sumN i (off c fun j=>g[j]!)∧sumN i (off c fun j=>g[j]!)≤4800000*i:=offs_bd hv (g:=fun j=>g[j]!) hg i (by omega)
   have hb2:0≤off c (fun j=>g[j]!) i∧off c (fun j=>g[j]!) i≤4800000:=off_bd hv (g:=fun j=>g[j]!) hi hgi
   have ha:=absI_nonneg g[i]!
   have ha2:absI g[i]! ≤ 800000:=absI_le.2 hgi
   rw [F69L2]
   dsimp only
   rw [if_pos (by simp;omega),idx_nat hi,Option.bind_some,need_true (by omega),Option.bind_some,Int.toNat_natCast,Nat.zero_add,Nat.mul_one,get_some (by omega),Option.bind_some,Option.bind_some,Option.bind_some,w64_id (n:=(i:Int)+1) (by omega) (by omega)]
   have e:F69e2 (s,(i:Int)) c.Sheets[i]! g[i]! g[i]! = s-off c (fun j=>g[j]!) i:=by
    unfold F69e2
    dsimp only
    rw [w64_id (n:=0-g[i]!) (by omega) (by omega),absI_neg,w64_id (n:=absI g[i]! - c.Sheets[i]!.Weight) (by omega) (by omega)]
    show w64 (s-w64 (off c (fun j=>g[j]!) i))=_
    rw [w64_id (n:=off c (fun j=>g[j]!) i) (by omega) (by omega),w64_id (by omega) (by omega)]
   rw [e]
   rfl)
  (fun n s _=>by rw [F69L2,if_neg (by simp)]) k n0 (by simp [sumN]) (by omega)
 have h2:=foldI_inv (l:=c.Sheets) (fun i (_:Sh) (s:Int)=>s-off c (fun j=>g[j]!) i) (fun i s=>s=n0-sumN i (off c fun j=>g[j]!)) (fun i s hi hp=>by rw [hp,sumN];omega) n0 (by simp [sumN])
 have h3:F69L2 c.Sheets (n0,g) k (n0,0)=_:=h
 rw [h3,h2]
theorem gv_bd {c:Cs} (hv:Val c) {p:List Int} (hp:okPr p) (hl:p.length=c.Edges.length) (j:Nat) : -800000≤gv c p j∧gv c p j≤800000:=by
 have:=gvp_bd hv hp hl j c.Edges.length (Nat.le_refl _)
 have hm:=hv.edges
 unfold gv
 omega
theorem cnts_bd' {c:Cs} (hv:Val c) {p:List Int} (hp:okPr p) (hl:p.length=c.Edges.length) : -15000000000≤sumN c.Edges.length (cnt c p)∧sumN c.Edges.length (cnt c p)≤15000000000:=by
 have:=cnts_bd hv hp hl c.Edges.length (Nat.le_refl _)
 have hm:=hv.edges
 omega
theorem e69 {k:Nat} {c:Cs} (hk:10≤k) (hv:Val c) {p:List Int} (hp:okPr p) (hl:p.length=c.Edges.length) (t:Int) (m:List (List Int×Int)):F69 k p t c.Sheets c.Edges (wl c) m=some (bound c p):=by
 have hs:=hv.sheets
 obtain ⟨g,h1,h2,h3⟩:=e69L1 hk hv hp hl
 have hb:=gv_bd hv hp hl
 have hg:∀j,j<c.Sheets.length → -800000≤g[j]! ∧ g[j]! ≤ 800000:=fun j hj=>by rw [h3 j (by omega)];exact hb j
 unfold F69
 rw [h1,Option.bind_some]
 simp only [outK]
 rw [e69L2 hk hv (cnts_bd' hv hp hl) h2 hg,Option.bind_some]
 simp only
 unfold bound
 rw [sumN_congr (f:=off c fun j=>g[j]!) (g:=off c (gv c p)) fun j hj=>off_congr (h3 j (by omega))]


theorem pairs_two (mk:Int→Int→S_api_Span):∀(n:Nat) (f:Nat→Int) (l:List Int),l.length=n*2→(∀i,i<n→l[i*2]? = some (f (2*i))∧l[i*2+1]? = some (f (2*i+1)))→pairs mk l=(List.range n).map fun i=>mk (f (2*i)) (f (2*i+1)):=by
 intro n
 induction n with
 | zero=>intro f l hl _;have:=List.eq_nil_of_length_eq_zero (by simpa using hl);subst this;rfl
 | succ n ih =>
  intro f l hl h
  match l,hl with
  | [],hl=>simp at hl
  | [a],hl=>simp at hl;omega
  | a::b::l,hl =>
   simp only [List.length_cons] at hl
   have h0:=h 0 (by omega)
   simp only [Nat.zero_mul,List.getElem?_cons_zero,Option.some.injEq,Nat.zero_add,List.getElem?_cons_succ,Nat.mul_zero] at h0
   have:=ih (fun i=>f (i+2)) l (by omega) (fun i hi=>by
    have hh:=h (i+1) (by omega)
    rw [show (i+1)*2=i*2+1+1 by omega,show i*2+1+1+1=(i*2+1)+1+1 by omega] at hh
    simp only [List.getElem?_cons_succ] at hh
    rw [show 2*(i+1)=2*i+2 by omega,show 2*i+2+1=2*i+1+2 by omega] at hh
    exact hh)
   rw [pairs,this,List.range_succ_eq_map,List.map_cons,List.map_map,h0.1,h0.2]
   congr 1
theorem e90 {k:Nat} {l:List S_api_Span} (hk:l.length<k) (hl:l.length<2^62):F90 k l=some (l.any fun x=>decide (x.Lo>x.Hi)):=by
 unfold F90 F104
 obtain ⟨o,h1,h2⟩:=index_loop (l:=l) (L:=F104L1 l) (p:=fun x=>decide (x.Lo>x.Hi)) hl
  (fun n i hi=>by rw [F104L1,if_pos (by simp;omega),idx_nat hi,Option.bind_some,F91,Option.bind_some])
  (fun n=>by rw [F104L1,if_neg (by simp)]) k hk
 rw [h1,Option.bind_some,h2,Option.bind_some]
 have:=any_isSome (p:=fun x:S_api_Span=>decide (x.Lo>x.Hi)) (l:=l) (i:=0)
 cases h:fstB (fun x:S_api_Span=>decide (x.Lo>x.Hi)) l 0 with
 | none=>rw [h] at this;rw [←this];rfl
 | some j=>rw [h] at this;rw [←this];simp
theorem e68_err {k:Nat} {c:Cs} (hk:17≤k) (h:(chk c).2.2≠0):F68v1 k c=some (.inr (chk c).2.2):=by
 unfold F68v1
 rw [e57_err hk h,Option.bind_some]
 simp only [outK]
 rw [if_pos (by simpa using h)]
theorem e68 {k:Nat} {c:Cs} (hk:17≤k) (h:(chk c).2.2=0):F68v1 k c=some (.inl (if soundB c then 0 else 9,c.Tol,c.Sheets,c.Edges,wl c,[])):=by
 have hv:=chk_val (chk_err h)
 have hm:=hv.edges
 have hw:=wl_inv hv.edges
 unfold F68v1
 rw [e57 hk h,Option.bind_some]
 simp only [outK]
 rw [if_neg (by simp),need_true (by omega),Option.bind_some,need_true hw.1,Option.bind_some,show ((c.Edges.length:Int)-0).toNat*2=c.Edges.length*2 by omega]
 have hp:=pairs_two (fun a b=>(⟨a,b⟩:S_api_Span)) c.Edges.length (fun i=>if i % 2=0 then lo c (i / 2) else hi c (i / 2)) ((wl c).take (c.Edges.length*2)) (by rw [List.length_take,hw.1];omega) (fun i hi'=>by
  have h2:=hw.2 i hi'
  rw [Nat.zero_add] at h2
  rw [List.getElem?_take_of_lt (by omega),List.getElem?_take_of_lt (by omega),h2.1,h2.2,if_pos (by omega),if_neg (by omega),show 2*i / 2=i by omega,show (2*i+1) / 2=i by omega]
  exact ⟨rfl,rfl⟩)
 have hp2:pairs (fun a b=>(⟨a,b⟩:S_api_Span)) ((wl c).take (c.Edges.length*2))=(List.range c.Edges.length).map fun i=>⟨lo c i,hi c i⟩:=by
  rw [hp]
  apply List.map_congr_left
  intro i _
  rw [if_pos (by omega),if_neg (by omega),show 2*i / 2=i by omega,show (2*i+1) / 2=i by omega]
 clear hp
 have hany:(pairs (fun a b=>(⟨a,b⟩:S_api_Span)) ((wl c).take (c.Edges.length*2))).any (fun x=>decide (x.Lo>x.Hi)) = !soundB c:=by
  rw [hp2,List.any_map]
  unfold soundB
  rw [List.all_eq_not_any_not,Bool.not_not,Bool.eq_iff_iff,List.any_eq_true,List.any_eq_true]
  constructor
  ·rintro ⟨i,h1,h2⟩
   have hi':=List.mem_range.1 h1
   refine ⟨_,mem_get hi',?_⟩
   simp only [Function.comp] at h2
   have h3:=of_decide_eq_true h2
   unfold lo hi at h3
   rw [decide_eq_false (by omega)];rfl
  ·rintro ⟨e,h1,h2⟩
   obtain ⟨i,hi',rfl⟩:=List.getElem_of_mem h1
   refine ⟨i,List.mem_range.2 hi',?_⟩
   simp only [Function.comp]
   have h3:¬(want c c.Edges[i]).1≤(want c c.Edges[i]).2:=fun h=>by rw [decide_eq_true h] at h2;simp at h2
   refine decide_eq_true ?_
   unfold lo hi
   rw [getElem!_pos c.Edges i hi']
   omega
 rw [e90 (by rw [hp2];simp;omega) (by rw [hp2];simp;omega),Option.bind_some,hany]
 cases soundB c<;>rfl


def boundE (c:Cs) (p:List Int):Int×Int :=
 if (chk c).2.2 != 0 then (0,(chk c).2.2) else if p.length=c.Edges.length then (if p.all (okN (-100000) 100000) then (if soundB c then (bound c p,0) else (0,9)) else (0,7)) else (0,3)
theorem okPr_iff {p:List Int}:p.all (okN (-100000) 100000)=true↔okPr p:=by
 rw [List.all_eq_true]
 exact ⟨fun h v hv=>okN_iff.1 (h v hv),fun h v hv=>okN_iff.2 (h v hv)⟩
theorem e30 {k:Nat} (hk:20≤k) (c:Cs) (p:List Int):F30 k c p=some (boundE c p):=by
 unfold F30 boundE
 by_cases h:(chk c).2.2=0
 ·have hv:=chk_val (chk_err h)
  have hm:=hv.edges
  rw [e68 (by omega) h,Option.bind_some,if_neg (show ¬((chk c).2.2 != 0)=true by simpa using h)]
  simp only [outK]
  by_cases hl:p.length=c.Edges.length
  ·rw [if_neg (by simp [hl]),if_pos hl,e48 (by omega) (by omega),Option.bind_some]
   have hany:(p.any fun n => !okN (-100000) 100000 n) = !p.all (okN (-100000) 100000):=by rw [List.all_eq_not_any_not,Bool.not_not]
   rw [hany]
   cases ha:p.all (okN (-100000) 100000) with
   | false=>rfl
   | true =>
    simp only [Bool.not_true,Bool.false_eq_true,if_false,if_true]
    cases hsd:soundB c with
    | false=>rfl
    | true =>
     simp only [if_true,Bool.false_eq_true]
     rw [if_neg (by simp),e69 (by omega) hv (okPr_iff.1 ha) hl,Option.bind_some]
  ·rw [if_pos (by simp;omega),if_neg hl]
 ·rw [e68_err (by omega) h,Option.bind_some,if_pos (show ((chk c).2.2 != 0)=true by simpa using h)]
  rfl
end Go.Proofs.Ytallnifoeahpiaa
