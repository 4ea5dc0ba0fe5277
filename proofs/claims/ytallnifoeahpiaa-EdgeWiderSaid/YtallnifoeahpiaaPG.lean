/- What changes agree with, and cost; the program's answers and the reference's. -/
import Derived.Test.YtallnifoeahpiaaPF
namespace Go.Proofs.Ytallnifoeahpiaa
open Go Go.Sx
set_option linter.all false


def absI (n:Int):Int:=if 0-n>n then 0-n else n
theorem absI_le {n m:Int}:absI n≤m ↔ -m≤n∧n≤m:=by unfold absI;split<;>omega
theorem absI_nonneg (n:Int):0≤absI n:=by unfold absI;split<;>omega
theorem e71 {n:Int} (h1 : -2^62≤n) (h2:n≤2^62):F71 n=some (absI n):=by
 unfold F71 absI
 rw [w64_id (n:=0-n) (by omega) (by omega)]

def agB (c:Cs) (l:List Int) (x:Eg):Bool:=okN (want c x).1 (want c x).2 (l[x.A.toNat]! - l[x.B.toNat]!)

def oddF (c:Cs) (l:List Int):Int:=match fstB (fun x => !agB c l x) c.Edges 0 with|some k=>(k:Int)|none => -1

def near (c:Cs) (l:List Int):Prop:=∀i,i<c.Sheets.length → -1000≤l[i]! ∧ l[i]! ≤ 1000
theorem near_inR {c:Cs} (hv:Val c) {l:List Int} (h:inR c l):near c l:=fun i hi=>by
 have:=h.2 i hi
 have:=most_ok hv hi
 omega

theorem e85 {k:Nat} {c:Cs} (hk:10≤k) (hv:Val c) {x:Eg} (hx:x∈c.Edges) {a b:Int} (ha : -1000≤a∧a≤1000) (hb : -1000≤b∧b≤1000):F85 k c x a b=some (okN (want c x).1 (want c x).2 (a-b)):=by
 have he:=hv.eg x hx
 have ht:=hv.tol
 have hpt:∀i,i<x.Points.length→0≤x.Points[i]!.A∧x.Points[i]!.A≤9000∧0≤x.Points[i]!.B∧x.Points[i]!.B≤9000:=fun i hi=>he.2.2.2.2.2.2.2 _ (mem_get hi)
 have h:=for_loop (l:=x.Points) (L:=F85L1 c x a b) (β:=Bool) (γ:=Unit) (σ:=Unit) (fun i _=>(i:Int)) (fun s=>s) (fun i p _=>if absI (p.A+a-p.B-b)>c.Tol then .inl false else .inr ()) (fun _ _=>True) (fun _ _ _ _ _ _=>trivial)
  (fun n i s hi _=>by
   have hp:=hpt i hi
   rw [F85L1,if_pos (by simp;omega),idx_nat hi,Option.bind_some,Option.bind_some,w64_id (n:=x.Points[i]!.A+a) (by omega) (by omega),w64_id (n:=x.Points[i]!.A+a-x.Points[i]!.B) (by omega) (by omega),w64_id (n:=x.Points[i]!.A+a-x.Points[i]!.B-b) (by omega) (by omega),e71 (by omega) (by omega),Option.bind_some]
   by_cases hg:absI (x.Points[i]!.A+a-x.Points[i]!.B-b)>c.Tol
   ·rw [if_pos (decide_eq_true hg),if_pos hg]
   ·rw [if_neg (by rw [decide_eq_false hg];simp),if_neg hg,w64_id (by omega) (by omega)];rfl)
  (fun n s _=>by rw [F85L1,if_neg (by simp)]) k () trivial (by omega)
 have hr:∀(l:List Pt) (i:Nat),runE (β:=Bool) (fun i (p:Pt) (_:Unit)=>if absI (p.A+a-p.B-b)>c.Tol then .inl false else .inr ()) l i ()=if l.all (fun p=>decide (absI (p.A+a-p.B-b)≤c.Tol)) then .inr () else .inl false:=by
  intro l
  induction l with
  | nil=>intro i;rfl
  | cons p l ih =>
   intro i
   rw [runE,List.all_cons]
   by_cases hg:absI (p.A+a-p.B-b)>c.Tol
   ·rw [if_pos hg,decide_eq_false (by omega)];rfl
   ·rw [if_neg hg,decide_eq_true (by omega),Bool.true_and];exact ih (i+1)
 unfold F85
 rw [show (0:Int)=((0:Nat):Int) from rfl,h,Option.bind_some,hr]
 have hall:x.Points.all (fun p=>decide (absI (p.A+a-p.B-b)≤c.Tol))=okN (want c x).1 (want c x).2 (a-b):=by
  rw [Bool.eq_iff_iff,List.all_eq_true,okN_iff,want_iff hv hx]
  constructor
  ·intro h p hp
   have:=of_decide_eq_true (h p hp)
   rw [absI_le] at this
   omega
  ·intro h p hp
   refine decide_eq_true ?_
   have:=h p hp
   rw [absI_le]
   omega
 rw [hall]
 cases okN (want c x).1 (want c x).2 (a-b)<;>rfl
theorem ends {c:Cs} (hv:Val c) {i:Nat} (hi:i<c.Edges.length):(0≤c.Edges[i]!.A∧c.Edges[i]!.A<c.Sheets.length)∧0≤c.Edges[i]!.B∧c.Edges[i]!.B<c.Sheets.length:=by
 have:=hv.eg _ (mem_get hi)
 exact ⟨⟨this.1,this.2.1⟩,this.2.2.1,this.2.2.2.1⟩
theorem odd_end {f:Option Nat}:some (match f with|some k=>(k:Int)|none => -1)=some (match f with|some k=>(k:Int)|none => -1):=rfl
theorem e62 {k:Nat} {c:Cs} (hk:10≤k) (hv:Val c) {l:List Int} (hl:l.length=c.Sheets.length) (hn:near c l):F62 k c l=some (oddF c l):=by
 unfold F62 oddF
 have hm:=hv.edges
 obtain ⟨o,h1,h2⟩:=index_loop (l:=c.Edges) (L:=F62L1 k c l) (p:=fun x => !agB c l x) (by omega)
  (fun n i hi=>by
   have he:=ends hv hi
   rw [F62L1,if_pos (by simp;omega),idx_nat hi,Option.bind_some,idx_bang (by omega) (by omega),Option.bind_some,idx_bang (by omega) (by omega),Option.bind_some,e85 hk hv (mem_get hi) (hn _ (by omega)) (hn _ (by omega)),Option.bind_some]
   rfl)
  (fun n=>by rw [F62L1,if_neg (by simp)]) k (by omega)
 rw [h1,Option.bind_some,h2]
 cases fstB (fun x => !agB c l x) c.Edges 0<;>rfl

def agreesE (c:Cs) (l:List Int):Int×Int:=if chE c l != 0 then (0,chE c l) else (oddF c l,0)
theorem e21 {k:Nat} (hk:17≤k) (c:Cs) (l:List Int):F21 k c l=some (agreesE c l):=by
 unfold F21 agreesE
 rw [e61 hk,Option.bind_some]
 by_cases h:chE c l=0
 ·have h':=chE_zero.1 h
  have hv:=chk_val (chk_err h'.1)
  rw [if_neg (by simpa using h),if_neg (by simpa using h),e62 (by omega) hv h'.2.1 (near_inR hv h'.2)];rfl
 ·rw [if_pos (by simpa using h),if_pos (by simpa using h)]


def cost (c:Cs) (l:List Int):Int:=sumN c.Sheets.length fun i=>c.Sheets[i]!.Weight*absI l[i]!
theorem absI_near {n:Int} (h : -1000≤n∧n≤1000):0≤absI n∧absI n≤1000:=⟨absI_nonneg n,absI_le.2 h⟩
theorem mul_near {a b:Int} (ha:0≤a∧a≤20) (hb:0≤b∧b≤1000):0≤a*b∧a*b≤20000:=by
 refine ⟨Int.mul_nonneg ha.1 hb.1,?_⟩
 have:=Int.mul_le_mul ha.2 hb.2 hb.1 (by omega:(0:Int)≤20)
 omega
theorem e39 {k:Nat} {c:Cs} (hk:10≤k) (hv:Val c) {l:List Int} (hl:l.length=c.Sheets.length) (hn:near c l):F39 k c l=some (cost c l):=by
 have hs:=hv.sheets
 have hb:∀i,i<l.length→0≤c.Sheets[i]!.Weight*absI l[i]! ∧ c.Sheets[i]!.Weight*absI l[i]! ≤ 20000:=fun i hi=>by
  have:=most_ok hv (i:=i) (by omega)
  exact mul_near ⟨this.2.2.1,this.2.2.2⟩ (absI_near (hn i (by omega)))
 have h:=for_fold (l:=l) (L:=F39L1 c l) (β:=Int) (σ:=Int) (fun i s=>(s,(i:Int))) (fun s=>s) (fun i x s=>s+c.Sheets[i]!.Weight*absI x) (fun i s=>0≤s∧s≤i*20000)
  (fun i s hi hp=>by have:=hb i hi;constructor<;>omega)
  (fun n i s hi hp=>by
   have:=hb i hi
   have hz:=hn i (by omega)
   rw [F39L1]
   dsimp only
   rw [if_pos (by simp;omega),idx_nat (by omega),Option.bind_some,idx_nat hi,Option.bind_some,e71 (by omega) (by omega),Option.bind_some,w64_id (n:=c.Sheets[i]!.Weight*absI l[i]!) (by omega) (by omega),w64_id (n:=s+_) (by omega) (by omega),w64_id (by omega) (by omega)]
   rfl)
  (fun n s _=>by rw [F39L1,if_neg (by simp)]) k 0 ⟨by omega,by omega⟩ (by omega)
 unfold F39
 have h':F39L1 c l k (0,0)=_:=h
 rw [h',Option.bind_some,foldI_sum,hl];rfl

def costE (c:Cs) (l:List Int):Int×Int:=if chE c l != 0 then (0,chE c l) else (cost c l,0)
theorem e23 {k:Nat} (hk:17≤k) (c:Cs) (l:List Int):F23 k c l=some (costE c l):=by
 unfold F23 costE
 rw [e61 hk,Option.bind_some]
 by_cases h:chE c l=0
 ·have h':=chE_zero.1 h
  have hv:=chk_val (chk_err h'.1)
  rw [if_neg (by simpa using h),if_neg (by simpa using h),e39 (by omega) hv h'.2.1 (near_inR hv h'.2)];rfl
 ·rw [if_pos (by simpa using h),if_pos (by simpa using h)]


theorem get_some {α:Type} [Inhabited α] {l:List α} {i:Nat} (h:i<l.length):l[i]? = some l[i]! := by rw [getElem!_pos l i h,List.getElem?_eq_getElem h]
theorem cutN5 {x:List Int} (h:x.length=5):cutN x 0 5=some x:=by
 unfold cutN
 rw [if_pos (by omega),List.drop_zero,List.take_of_length_le (by omega)]
theorem e60 {k:Nat} {c:Cs} (hk:10≤k) (hv:Val c) {x:List Int} (hx:x.length=5) (hn:near c x) (t:Int) (m:List (List Int×Int)):F60 k x t c.Sheets c.Edges (wl c) m=some (oddF c x):=by
 unfold F60 oddF
 have hm:=hv.edges
 have hs:=hv.sheets
 obtain ⟨o,h1,h2⟩:=index_loop (l:=c.Edges) (L:=F60L1 k x c.Edges (wl c)) (p:=fun y => !agB c x y) (by omega)
  (fun n i hi=>by
   have he:=ends hv hi
   have hw:=(wl_inv hv.edges).2 i hi
   have ha:=hn c.Edges[i]!.A.toNat (by omega)
   have hb:=hn c.Edges[i]!.B.toNat (by omega)
   rw [F60L1,if_pos (by simp;omega),idx_nat hi,Option.bind_some,need_true (by omega),Option.bind_some,Int.toNat_natCast,hw.1,Option.bind_some,Option.bind_some,hw.2,Option.bind_some,need_true (by omega),Option.bind_some,
    Nat.zero_add,Nat.mul_one,get_some (by omega),Option.bind_some,need_true (by omega),Option.bind_some,Nat.zero_add,Nat.mul_one,get_some (by omega),Option.bind_some,w64_id (n:=x[c.Edges[i]!.A.toNat]! - x[c.Edges[i]!.B.toNat]!) (by omega) (by omega),e48_1 (by omega),Option.bind_some]
   rfl)
  (fun n=>by rw [F60L1,if_neg (by simp)]) k (by omega)
 rw [h1,Option.bind_some,h2]
 cases fstB (fun y => !agB c x y) c.Edges 0<;>rfl

def KeptOk (c:Cs) (m:List (List Int×Int)):Prop:=∀q∈m,q.1.length=5∧q.2=cost c q.1
theorem mget_kept {c:Cs} {x:List Int} {n:Int}:∀{m:List (List Int×Int)},KeptOk c m→mget eqk101 x m=some n→n=cost c x:=by
 intro m
 induction m with
 | nil=>intro _ h;simp [mget] at h
 | cons q m ih =>
  intro hm h
  rw [mget] at h
  split at h
  ·rename_i he
   have he':x=q.1:=eq_of_beq he
   have:=(hm q (by simp)).2
   simp at h
   rw [←h,this,he']
  ·exact ih (fun y hy=>hm y (List.mem_cons_of_mem _ hy)) h
theorem mset_kept {c:Cs} {x:List Int} (hx:x.length=5):∀{m:List (List Int×Int)},KeptOk c m→KeptOk c (mset eqk101 x (cost c x) m):=by
 intro m
 induction m with
 | nil=>intro _ q hq;simp [mset] at hq;subst hq;exact ⟨hx,rfl⟩
 | cons q m ih =>
  intro hm y hy
  rw [mset] at hy
  split at hy
  ·rcases List.mem_cons.1 hy with rfl|hy
   ·exact ⟨hx,rfl⟩
   ·exact hm y (List.mem_cons_of_mem _ hy)
  ·rcases List.mem_cons.1 hy with rfl|hy
   ·exact hm y (by simp)
   ·exact ih (fun z hz=>hm z (List.mem_cons_of_mem _ hz)) y hy
theorem kept_all {c:Cs} {m:List (List Int×Int)} (h:KeptOk c m):(m.all fun q=>q.1.length==5)=true:=by
 rw [List.all_eq_true]
 intro q hq
 simpa using (h q hq).1
theorem e63 {k:Nat} {c:Cs} (hk:10≤k) (hv:Val c) {x:List Int} (hx:x.length=5) (hn:near c x) (t:Int) {m:List (List Int×Int)} (hm:KeptOk c m):∃m',F63 k x t c.Sheets c.Edges (wl c) m=some (cost c x,m')∧KeptOk c m':=by
 unfold F63
 have hs:=hv.sheets
 rw [need_true (wl_inv hv.edges).1,Option.bind_some,cutN5 hx,Option.bind_some,need_true hx,Option.bind_some,need_true (kept_all hm),Option.bind_some]
 cases hg:mget eqk101 x m with
 | some n =>
  have:=mget_kept hm hg
  subst this
  exact ⟨m,rfl,hm⟩
 | none =>
  have hb:∀i,i<c.Sheets.length→0≤c.Sheets[i]!.Weight*absI x[i]! ∧ c.Sheets[i]!.Weight*absI x[i]! ≤ 20000:=fun i hi=>by
   have:=most_ok hv hi
   exact mul_near ⟨this.2.2.1,this.2.2.2⟩ (absI_near (hn i hi))
  have h:=for_fold (l:=c.Sheets) (L:=F63L1 x c.Sheets) (β:=Int×List (List Int×Int)) (σ:=Int) (fun i s=>(s,(i:Int))) (fun s=>s) (fun i y s=>s+y.Weight*absI x[i]!) (fun i s=>0≤s∧s≤i*20000)
   (fun i s hi hp=>by have:=hb i hi;constructor<;>omega)
   (fun n i s hi hp=>by
    have:=hb i hi
    have hz:=hn i hi
    rw [F63L1]
    dsimp only
    rw [if_pos (by simp;omega),idx_nat hi,Option.bind_some,need_true (by omega),Option.bind_some,Int.toNat_natCast,Nat.zero_add,Nat.mul_one,get_some (by omega),Option.bind_some,Option.bind_some,Option.bind_some,w64_id (n:=0-x[i]!) (by omega) (by omega)]
    rw [show (if 0-x[i]! > x[i]! then 0-x[i]! else x[i]!)=absI x[i]! from rfl,w64_id (n:=c.Sheets[i]!.Weight*absI x[i]!) (by omega) (by omega),w64_id (n:=s+_) (by omega) (by omega),w64_id (by omega) (by omega)]
    rfl)
   (fun n s _=>by rw [F63L1,if_neg (by simp)]) k 0 ⟨by omega,by omega⟩ (by omega)
  have h':F63L1 x c.Sheets k (0,0)=_:=h
  rw [foldI_sum] at h'
  simp only [Option.isSome_none,Bool.not_false,if_true,Option.getD_none]
  rw [h',Option.bind_some]
  simp only [outK,Option.bind_some]
  refine ⟨mset eqk101 x (cost c x) m,?_,mset_kept hx hm⟩
  rw [need_true hx];rfl


def pad (l:List Int):List Int:=l++List.replicate (5-l.length) 0
theorem pad_len {l:List Int} (h:l.length≤5):(pad l).length=5:=by simp [pad];omega
theorem pad_get {l:List Int} {i:Nat} (h:i<l.length):(pad l)[i]! = l[i]! := by
 rw [getElem!_pos (pad l) i (by simp [pad];omega),getElem!_pos l i h]
 exact List.getElem_append_left h
theorem oddF_pad {c:Cs} (hv:Val c) {l:List Int} (hl:l.length=c.Sheets.length):oddF c (pad l)=oddF c l:=by
 unfold oddF
 have:∀(es:List Eg) (j:Nat),(∀x∈es,x∈c.Edges)→fstB (fun x => !agB c (pad l) x) es j=fstB (fun x => !agB c l x) es j:=by
  intro es
  induction es with
  | nil=>intro j _;rfl
  | cons x es ih =>
   intro j h
   have he:=hv.eg x (h x (by simp))
   rw [fstB,fstB,ih (j+1) (fun y hy=>h y (List.mem_cons_of_mem _ hy))]
   have:agB c (pad l) x=agB c l x:=by
    unfold agB
    rw [pad_get (by omega),pad_get (by omega)]
   rw [this]
 rw [this c.Edges 0 (fun x hx=>hx)]
theorem cost_pad {c:Cs} {l:List Int} (hl:l.length=c.Sheets.length):cost c (pad l)=cost c l:=sumN_congr fun i hi=>by rw [pad_get (by omega)]

theorem e59L1 {k:Nat} {c:Cs} (hk:17≤k) (hv:Val c) {l:List Int} (hl:l.length=c.Sheets.length):∀(suf pre:List Int) (n:Nat),l=pre++suf→suf.length<n →
 (far c suf pre.length=false∧F59v1L1 k c l n ((pre.length:Int),pre++List.replicate (5-pre.length) 0)=some (.inr (pad l))) ∨
 (far c suf pre.length=true∧∃y:List Int,y.length=5∧F59v1L1 k c l n ((pre.length:Int),pre++List.replicate (5-pre.length) 0)=some (.inl (y,7))):=by
 have hs:=hv.sheets
 intro suf
 induction suf with
 | nil =>
  intro pre n h hn
  obtain ⟨n,rfl⟩:∃q,n=q+1:=⟨n-1,by simp at hn;omega⟩
  rw [List.append_nil] at h;subst h
  refine .inl ⟨rfl,?_⟩
  rw [F59v1L1,if_neg (by simp)];rfl
 | cons x suf ih =>
  intro pre n h hn
  obtain ⟨n,rfl⟩:∃q,n=q+1:=⟨n-1,by simp at hn;omega⟩
  have hi:pre.length<l.length:=by rw [h];simp
  have hx:l[pre.length]! = x:=by rw [getElem!_pos l _ hi];simp [h]
  have hm:=most_ok hv (i:=pre.length) (by omega)
  have h5:(pre++List.replicate (5-pre.length) (0:Int)).length=5:=by simp;omega
  rw [F59v1L1]
  dsimp only
  rw [if_pos (by simp;omega),idx_nat hi,Option.bind_some,idx_nat (by omega),Option.bind_some,Option.bind_some,w64_id (n:=0-c.Sheets[pre.length]!.Most) (by omega) (by omega),e48_1 (by omega),Option.bind_some,hx,far]
  have hz:okN (0-c.Sheets[pre.length]!.Most) c.Sheets[pre.length]!.Most x=okC c pre.length x:=by unfold okC;congr 1;omega
  rw [hz]
  cases hok:okC c pre.length x with
  | true =>
   simp only [Bool.not_true,Bool.false_eq_true,if_false,Bool.false_or]
   rw [need_true (by omega),Option.bind_some,Int.toNat_natCast,Nat.zero_add,Nat.mul_one,get_some (by omega),Option.bind_some,w64_id (by omega) (by omega)]
   have hset:(pre++List.replicate (5-pre.length) (0:Int)).set pre.length x=(pre++[x])++List.replicate (5-(pre++[x]).length) 0:=by
    rw [List.set_append_right _ _ (Nat.le_refl _),Nat.sub_self]
    obtain ⟨m,hm⟩:∃m,5-pre.length=m+1:=⟨5-pre.length-1,by omega⟩
    rw [hm,List.replicate_succ,List.set_cons_zero]
    rw [show 5-(pre++[x]).length=m by simp;omega]
    simp
   rw [hset]
   have:=ih (pre++[x]) n (by simp [h]) (by simp at hn;omega)
   simpa using this
  | false =>
   simp only [Bool.not_false,if_true,Bool.true_or]
   refine .inr ⟨trivial,pre++List.replicate (5-pre.length) 0,h5,?_⟩
   rw [cutN5 h5,Option.bind_some,need_true h5,Option.bind_some,Option.bind_some]
theorem e59 {k:Nat} (hk:17≤k) (c:Cs) (l:List Int):(chE c l=0∧F59v1 k c l=some (.inl (pad l,look0 c)))∨(chE c l≠0∧∃y:List Int,y.length=5∧F59v1 k c l=some (.inr (y,chE c l))):=by
 have hcut:cutN (List.replicate 5 (0:Int)) 0 5=some (List.replicate 5 0):=rfl
 by_cases h:(chk c).2.2=0
 ·have hv:=chk_val (chk_err h)
  have hs:=hv.sheets
  by_cases hl:l.length=c.Sheets.length
  ·have hL:=e59L1 hk hv hl l [] k rfl (by omega)
   simp only [List.length_nil,List.nil_append,Nat.sub_zero] at hL
   rcases hL with ⟨hf,hL⟩|⟨hf,y,hy,hL⟩
   ·refine .inl ⟨chE_zero.2 ⟨h,(far_iff hl).1 hf⟩,?_⟩
    unfold F59v1
    rw [e57 hk h,Option.bind_some]
    simp only [outK]
    rw [if_neg (by simp),if_neg (by simp [hl])]
    rw [show ((0:Int),List.replicate 5 (0:Int))=(((0:Nat):Int),List.replicate 5 0) from rfl,hL,Option.bind_some]
    have hp:=pad_len (l:=l) (by omega)
    simp only [outK]
    rw [cutN5 hp,Option.bind_some,need_true hp,Option.bind_some,Option.bind_some,Option.bind_some]
   ·have hE:chE c l=7:=by unfold chE;rw [if_neg (by simpa using h),if_pos hl,hf];rfl
    refine .inr ⟨by omega,y,hy,?_⟩
    unfold F59v1
    rw [e57 hk h,Option.bind_some]
    simp only [outK]
    rw [if_neg (by simp),if_neg (by simp [hl])]
    rw [show ((0:Int),List.replicate 5 (0:Int))=(((0:Nat):Int),List.replicate 5 0) from rfl,hL,Option.bind_some]
    simp only [outK]
    rw [need_true hy,Option.bind_some,hE]
  ·have hE:chE c l=3:=by unfold chE;rw [if_neg (by simpa using h),if_neg hl]
   refine .inr ⟨by omega,List.replicate 5 0,by simp,?_⟩
   unfold F59v1
   rw [e57 hk h,Option.bind_some]
   simp only [outK]
   rw [if_neg (by simp),if_pos (by simp;omega),hcut,Option.bind_some,need_true (by simp),Option.bind_some,Option.bind_some,hE]
 ·have hE:chE c l=(chk c).2.2:=by unfold chE;rw [if_pos (by simpa using h)]
  refine .inr ⟨by omega,List.replicate 5 0,by simp,?_⟩
  unfold F59v1
  rw [e57_err hk h,Option.bind_some]
  simp only [outK]
  rw [if_pos (by simpa using h),hcut,Option.bind_some,need_true (by simp),Option.bind_some,Option.bind_some,hE]
theorem e20 {k:Nat} (hk:17≤k) (c:Cs) (l:List Int):F20 k c l=some (agreesE c l):=by
 unfold F20 agreesE
 rcases e59 hk c l with ⟨h,h1⟩|⟨h,y,hy,h1⟩
 ·have h':=chE_zero.1 h
  have hv:=chk_val (chk_err h'.1)
  have hs:=hv.sheets
  have hp:=pad_len (l:=l) (by have:=h'.2.1;omega)
  have hn:near c (pad l):=fun i hi=>by rw [pad_get (by have:=h'.2.1;omega)];exact near_inR hv h'.2 i hi
  rw [h1,Option.bind_some,if_neg (show ¬(chE c l != 0)=true by simpa using h)]
  simp only [outK]
  rw [need_true hp,Option.bind_some,if_neg (by simp),cutN5 hp,Option.bind_some,e60 (by omega) hv hp hn,Option.bind_some,oddF_pad hv h'.2.1]
 ·rw [h1,Option.bind_some,if_pos (show (chE c l != 0)=true by simpa using h)]
  simp only [outK]
  rw [need_true hy,Option.bind_some,if_pos (by simpa using h)]
theorem e22 {k:Nat} (hk:17≤k) (c:Cs) (l:List Int):F22 k c l=some (costE c l):=by
 unfold F22 costE
 rcases e59 hk c l with ⟨h,h1⟩|⟨h,y,hy,h1⟩
 ·have h':=chE_zero.1 h
  have hv:=chk_val (chk_err h'.1)
  have hs:=hv.sheets
  have hp:=pad_len (l:=l) (by have:=h'.2.1;omega)
  have hn:near c (pad l):=fun i hi=>by rw [pad_get (by have:=h'.2.1;omega)];exact near_inR hv h'.2 i hi
  obtain ⟨m,h2,_⟩:=e63 (k:=k) (by omega) hv hp hn c.Tol (m:=[]) (fun q hq=>by simp at hq)
  rw [h1,Option.bind_some,if_neg (show ¬(chE c l != 0)=true by simpa using h)]
  simp only [outK]
  rw [need_true hp,Option.bind_some,if_neg (by simp),cutN5 hp,Option.bind_some,h2,Option.bind_some,cost_pad h'.2.1]
 ·rw [h1,Option.bind_some,if_pos (show (chE c l != 0)=true by simpa using h)]
  simp only [outK]
  rw [need_true hy,Option.bind_some,if_pos (by simpa using h)]
end Go.Proofs.Ytallnifoeahpiaa
