/- A calculus of abstract states for Go programs, part 3: what it computes is what the program does. -/
import Derived.Test.YtkcgfceihpampaaGreatDoorX2
import Derived.ChangeSame
import Derived.Handed
import Derived.KernelRfl
import Derived.OpenShut
import Derived.ProofKit
import Derived.RangeFuncIn
import Derived.WideKeyArgs
section
namespace Go.Sx
open Go
set_option linter.unusedSimpArgs false
set_option linter.unusedVariables false
section
variable {P:Program} {tt:Tab} {N:Nat} {Γ:Ctx} {H H':List O} {bs:Bs} {Z:Nat→Prop} {w:World} {a:Act} {lk:Nat→Option V} {o:Oper} {v:V} {T T':St} {ps:List Prop}
theorem InvW.congrW {w':World} (hW:InvW Γ H bs Z w) (h:w'.heap=w.heap) (h1:w'.os=w.os) (h2:w'.tape=w.tape) (h3:w'.output=w.output):InvW Γ H bs Z w':=by
 have hh:∀b:Nat,w'.heap[b]? = w.heap[b]? := fun b=>by rw [h]
 constructor
 ·exact hW.lenH
 ·intro i o q ho hq;exact (hW.objs i o q ho hq).mono (fun _ _ h=>h) (fun _ h=>h) (fun b _=>hh b) (fun b k _=>hh b)
 ·exact hW.nodup
 ·exact hW.disj
 ·intro i b k hb;rw [h];exact hW.lt i b k hb
 ·intro b hb;rw [h];exact hW.zlt b hb
 ·exact hW.z0
 ·exact hW.fresh
 ·exact hW.zfresh
 ·rw [h];exact hW.size
 ·intro b hb hB;rw [hh];exact hW.frame b hb hB
 ·rw [h1];exact hW.os
 ·rw [h2];exact hW.tape
 ·rw [h3];exact hW.output
 ·exact hW.pin
theorem InvF.exT (hI:InvF N Γ lk bs Z a w):∃T:St,(fun x=>T.lookup x)=lk∧InvT N Γ T bs Z a w:=by
 let T:St:=(List.range N).filterMap fun x=>(lk x).map fun v=>(x,v)
 have hl:∀(ns:List Nat) (x:Nat),(ns.filterMap fun x=>(lk x).map fun v=>(x,v)).lookup x=if x∈ns then lk x else none:=by
  intro ns x;induction ns with
  | nil=>simp
  | cons n ns ih =>
   rw [List.filterMap_cons];cases hn:lk n with
   | none =>
    simp only [Option.map_none];rw [ih];by_cases hx:x=n
    ·subst hx;simp [hn]
    ·simp [hx]
   | some v =>
    simp only [Zo,ZV];by_cases hx:x=n
    ·subst hx;simp [hn]
    ·have:(x==n)=false:=by rw [beq_eq_false_iff_ne];exact hx
     rw [this,ih];simp [hx]
 have hlk:(fun x=>T.lookup x)=lk:=by
  funext x;rw [hl];split
  ·rfl
  ·rename_i h;cases hx:lk x with
   | none=>rfl
   | some v=>exact absurd (List.mem_range.2 (hI.rel x v hx).1) h
 refine ⟨T,hlk,hI.size,hI.defers,fun i x hx=>?_⟩;simp only [T,Yn,Zc,Ze] at hx;obtain ⟨k,_,v,hv,rfl,rfl⟩:=hx;exact hI.rel k v hv
theorem updW_dst (lk:Nat→Option V) (d:Option Tmp) (v:V):updW lk (dstW d v)=upd lk d v:=by
 funext x;cases d with
 | none=>simp [updW,dstW,upd]
 | some d =>
  simp only [updW,dstW,upd,ZV,List.lookup_nil];by_cases hx:x=d
  ·subst hx;simp
  ·have:(x==d)=false:=by rw [beq_eq_false_iff_ne];exact hx
   rw [this];simp [show ¬d=x from fun e=>hx e.symm]
theorem cells_ids {vs:List V} (h:v.cells=some vs):∀u∈vs,∀i∈u.ids,i∈v.ids:=by
 intro u hu i hi;cases v with
 | agg cs=>simp [V.cells] at h;subst h;simp only [V.ids];exact idsL_mem hu i hi
 | d x =>
  cases x with
  | agg ds =>
   simp [V.cells] at h;subst h;obtain ⟨y,_,rfl⟩:=ZX.1 hu;simp [V.ids] at hi
  | _=>simp [V.cells] at h;subst h;simp at hu;subst hu;simpa using hi
 | top=>simp [V.cells] at h
 | when=>simp [V.cells] at h
 | tup=>simp [V.cells] at h
 | _=>simp [V.cells] at h;subst h;simp at hu;subst hu;simpa using hi
theorem fill_row (hW:InvW Γ H bs Z w) (hI:InvF N Γ lk bs Z a w) {r:Nat} (hr:isRow0 H[r]? = true) (hlk:∀x v,lk x=some v→r ∉ v.ids) (hH:∀(i:Nat) o,H[i]? = some o→r ∉ o.ids) {vs:List V} {cs:Array Value} (t:TypeId)
 (hv:RVL bs Z w vs cs.toList) (hvs:∀u∈vs,r ∉ u.ids) :
 InvW Γ (H.set r (.cells vs)) (bs.set r (some (w.heap.size,cs.size))) Z (w.alloc (.cells cs t))∧InvF N Γ lk (bs.set r (some (w.heap.size,cs.size))) Z a (w.alloc (.cells cs t)):=by
 have hold:∀b,Z b→(w.alloc (.cells cs t)).heap[b]? = w.heap[b]? := fun b hb=>(Grow.alloc Z w _).heap b (hW.zlt b hb)
 have hset:∀(i:Nat) (o:Option (Nat×Nat)),i≠r→bs[i]? = some o→(bs.set r (some (w.heap.size,cs.size)))[i]? = some o:=by
  intro i o hi h;rw [Zn,if_neg (fun e=>hi e.symm)];exact h
 have hl:vs.length=cs.size:=by have:=hv.1;simp at this;omega
 have hrl:r<H.length:=by
  unfold isRow0 at hr;split at hr
  ·rename_i e;exact (Zb.1 e).1
  ·simp at hr
 have hdat:∀o,H[r]? = some o→o.isData=true:=by
  intro o ho;rw [ho] at hr;unfold isRow0 at hr;split at hr
  ·rename_i e;simp at e;subst e;rfl
  ·simp at hr
 have hv':RVL (bs.set r (some (w.heap.size,cs.size))) Z (w.alloc (.cells cs t)) vs cs.toList:=by
  refine ⟨hv.1,fun j x c hx hc=>⟨(hv.2 j x c hx hc).1,((hv.2 j x c hx hc).2.mono (fun _ _ h=>h) (fun _ h=>h) hold).keep (fun i hi o ho=>hset i o (fun e=>?_) ho)⟩⟩;subst e;exact hvs x (ZG hx) hi
 have hn:okO (bs.set r (some (w.heap.size,cs.size))) Z (w.alloc (.cells cs t)) (.cells vs) (some (w.heap.size,cs.size)):=by
  refine okO.ofL (heap_alloc w _) ?_ (by omega);rw [ZH (by simp;omega)];exact hv'
 have hmv:=InvW.move hW (id:=r) (by rw [hW.lenH];exact hrl) (.cells cs t) (.cells vs) cs.size (hn.mono (w':=w.drew.alloc (.cells cs t)) (fun _ _ h=>h) (fun _ h=>h) (fun _ _=>rfl) (fun _ _ _=>rfl)) hdat
 have honly:onlyH (· != r) H=H:=by
  unfold onlyH
  conv=>rhs;rw [←List.map_id H]
  refine Z6 fun o ho=>?_;obtain ⟨j,hj⟩:=Yd.1 ho
  rw [onlyO_ids _ _ (fun i hi=>by
   have:i≠r:=fun e=>by subst e;exact hH j o hj hi
   simpa using this)]
  rfl
 rw [honly] at hmv;refine ⟨hmv.congrW rfl rfl rfl rfl,hI.size,hI.defers.mono (fun _ h=>h) hold,fun i x hx=>⟨(hI.rel i x hx).1,((hI.rel i x hx).2.mono (fun _ _ h=>h) (fun _ h=>h) hold).keep (fun j hj o ho=>hset j o (fun e=>?_) ho)⟩⟩;subst e;exact hlk i x hx hj
theorem fill_data (hW:InvW Γ H bs Z w) (hI:InvF N Γ lk bs Z a w) {r:Nat} (hr:isRow0 H[r]? = true) (hlk:∀x v,lk x=some v→r ∉ v.ids) (hH:∀(i:Nat) o,H[i]? = some o→r ∉ o.ids) {ds:List D} {cs:Array Value} (t:TypeId)
 (hv:RDL Z w ds (cs.toList.take ds.length)) (hl:ds.length≤cs.size) :
 InvW Γ (H.set r (.data ds)) (bs.set r (some (w.heap.size,cs.size))) Z (w.alloc (.cells cs t))∧InvF N Γ lk (bs.set r (some (w.heap.size,cs.size))) Z a (w.alloc (.cells cs t)):=by
 have hold:∀b,Z b→(w.alloc (.cells cs t)).heap[b]? = w.heap[b]? := fun b hb=>(Grow.alloc Z w _).heap b (hW.zlt b hb)
 have hset:∀(i:Nat) (o:Option (Nat×Nat)),i≠r→bs[i]? = some o→(bs.set r (some (w.heap.size,cs.size)))[i]? = some o:=by
  intro i o hi h;rw [Zn,if_neg (fun e=>hi e.symm)];exact h
 have hrl:r<H.length:=by
  unfold isRow0 at hr;split at hr
  ·rename_i e;exact (Zb.1 e).1
  ·simp at hr
 have hdat:∀o,H[r]? = some o→o.isData=true:=by
  intro o ho;rw [ho] at hr;unfold isRow0 at hr;split at hr
  ·rename_i e;simp at e;subst e;rfl
  ·simp at hr
 have hn:okO (bs.set r (some (w.heap.size,cs.size))) Z (w.alloc (.cells cs t)) (.data ds) (some (w.heap.size,cs.size)) :=
  okO.ofD (heap_alloc w _) ⟨hv.1,fun j x c hx hc=>⟨(hv.2 j x c hx hc).1,(hv.2 j x c hx hc).2.mono (fun _ h=>h) hold⟩⟩ hl
 have hmv:=InvW.move hW (id:=r) (by rw [hW.lenH];exact hrl) (.cells cs t) (.data ds) cs.size (hn.mono (w':=w.drew.alloc (.cells cs t)) (fun _ _ h=>h) (fun _ h=>h) (fun _ _=>rfl) (fun _ _ _=>rfl)) hdat
 have honly:onlyH (· != r) H=H:=by
  unfold onlyH
  conv=>rhs;rw [←List.map_id H]
  refine Z6 fun o ho=>?_;obtain ⟨j,hj⟩:=Yd.1 ho
  rw [onlyO_ids _ _ (fun i hi=>by
   have:i≠r:=fun e=>by subst e;exact hH j o hj hi
   simpa using this)]
  rfl
 rw [honly] at hmv;refine ⟨hmv.congrW rfl rfl rfl rfl,hI.size,hI.defers.mono (fun _ h=>h) hold,fun i x hx=>⟨(hI.rel i x hx).1,((hI.rel i x hx).2.mono (fun _ _ h=>h) (fun _ h=>h) hold).keep (fun j hj o ho=>hset j o (fun e=>?_) ho)⟩⟩;subst e;exact hlk i x hx hj
theorem evStore_set {i:TI} {h:Hint} {id off:Nat} {y:V} (he:evStore i h T H (.ref id off) y=some (v,T',H',ps)):v = .top∧T'=T∧id<H.length∧∃n,H'=H.set id n:=by
 unfold evStore at he;split at he
 ·rename_i id' off' heq;simp at heq;obtain ⟨rfl,rfl⟩:=heq;split at he
  ·rename_i hH hv;have hlt:=(Zb.1 hH).1;split at he
   ·simp at he;obtain ⟨rfl,rfl,rfl,rfl⟩:=he;exact ⟨rfl,rfl,hlt,_,rfl⟩
   ·split at he
    ·split at he
     ·simp only [Zf,Ze] at he;obtain ⟨rfl,rfl,rfl,rfl⟩:=he;exact ⟨rfl,rfl,hlt,_,rfl⟩
     ·simp at he
    ·simp at he
  ·rename_i hH hv;have hlt:=(Zb.1 hH).1;split at he
   ·simp only [Zf,Ze] at he;obtain ⟨rfl,rfl,rfl,rfl⟩:=he;exact ⟨rfl,rfl,hlt,_,rfl⟩
   ·split at he
    ·split at he
     ·simp only [Zf,Ze] at he;obtain ⟨rfl,rfl,rfl,rfl⟩:=he;exact ⟨rfl,rfl,hlt,_,rfl⟩
     ·simp at he
    ·simp at he
  ·rename_i hH hv;have hlt:=(Zb.1 hH).1;split at he
   ·split at he
    ·simp at he;obtain ⟨rfl,rfl,rfl,rfl⟩:=he;exact ⟨rfl,rfl,hlt,_,rfl⟩
    ·simp at he
   ·simp at he
  ·rename_i hH hv;have hlt:=(Zb.1 hH).1;split at he
   ·split at he
    ·simp at he;obtain ⟨rfl,rfl,rfl,rfl⟩:=he;exact ⟨rfl,rfl,hlt,_,rfl⟩
    ·simp at he
   ·simp at he
  ·simp at he
 ·rename_i hh;exact (hh _ _ rfl).elim
theorem evStore_T {i:TI} {h:Hint} {x y:V} (T:St):evStore i h T H x y=(evStore i h [] H x y).map fun q=>(q.1,T,q.2.2.1,q.2.2.2):=by
 unfold evStore;split
 ·split
  ·split
   ·rfl
   ·split
    ·split<;>rfl
    ·rfl
  ·split
   ·rfl
   ·split
    ·split<;>rfl
    ·rfl
  ·split
   ·split<;>rfl
   ·rfl
  ·split
   ·split<;>rfl
   ·rfl
  ·rfl
 ·rfl
theorem zip_lookup:∀(is:List Nat) (olds:List O) (n i:Nat),(is.zip olds).lookup i=(inIds is n i).bind fun j=>olds[j-n]? := by
 intro is;induction is with
 | nil=>intro olds n i;rfl
 | cons k is ih =>
  intro olds n i;cases olds with
  | nil=>simp
  | cons o olds =>
   simp only [List.zip_cons_cons,ZV,inIds];by_cases h:k=i
   ·subst h;simp
   ·have h1:(i==k)=false:=by rw [beq_eq_false_iff_ne];exact fun e=>h e.symm
    have h2:(k==i)=false:=by rw [beq_eq_false_iff_ne];exact h
    rw [h1,h2];simp only [Zk,if_false];rw [ih olds (n+1) i];cases hj:inIds is (n+1) i with
    | none=>rfl
    | some j =>
     have:=(inIds_some is (n+1) i j hj).1;simp only [Za];rw [show j-n=(j-(n+1))+1 by omega,List.getElem?_cons_succ]
theorem lookup_onlyT (p:Nat→Bool) (T:St) (x:Nat):(onlyT p T).lookup x=(T.lookup x).map (V.only p):=by
 induction T with
 | nil=>rfl
 | cons q T ih =>
  obtain ⟨y,v⟩:=q;simp only [onlyT,ZW,ZV] at ih ⊢;by_cases h:(x==y)=true
  ·rw [h];rfl
  ·have h:(x==y)=false:=by simpa using h
   rw [h];exact ih
theorem lookup_kills {W:List (Nat×Option V)} {kx:List Nat} {x:Nat}:(W++kx.map (fun k=>(k,(none:Option V)))).lookup x=match W.lookup x with
 | some a=>some a
 | none=>if x∈kx then some none else none:=by
 induction W with
 | nil =>
  simp only [List.nil_append,List.lookup_nil];induction kx with
  | nil=>simp
  | cons k kx ih =>
   simp only [ZW,ZV,ZM];by_cases h:x=k
   ·subst h;simp
   ·have:(x==k)=false:=by rw [beq_eq_false_iff_ne];exact h
    rw [this,ih];simp [h]
 | cons q W ih =>
  obtain ⟨y,a⟩:=q;simp only [List.cons_append,ZV];by_cases h:(x==y)=true
  ·rw [h]
  ·have h:(x==y)=false:=by simpa using h
   rw [h];exact ih
theorem lookup_map_ids {f:Nat→O} {ko:List Nat} {x:Nat}:(ko.map (fun k=>(k,f k))).lookup x=if x∈ko then some (f x) else none:=by
 induction ko with
 | nil=>simp
 | cons k ko ih =>
  simp only [ZW,ZV,ZM];by_cases h:x=k
  ·subst h;simp
  ·have:(x==k)=false:=by rw [beq_eq_false_iff_ne];exact h
   rw [this,ih];simp [h]
theorem evAppend_T {i:TI} {h:Hint} {x y:V} (T:St) {e id n:Nat} (hx:x = .sl e id 0 n):evAppend tt i h T H x y=(evAppend tt i h [] H x y).map fun q=>(q.1,onlyT (· != id) T,q.2.2.1,q.2.2.2):=by
 subst hx;unfold evAppend;simp only;split
 ·rename_i o1 ty k out xs m src e1 e2 e3;cases tt.lookup ty with
  | none=>rfl
  | some it =>
   simp only [Za];split<;>rfl
 ·rfl
theorem evAppend_shape {i:TI} {n:Nat} {xs:List D} {y:V} {e id m:Nat} (he:evAppend tt i (.list n xs) T H (.sl e id 0 m) y=some (v,T',H',ps)):id<H.length∧H'=(onlyH (· != id) H).set id (.data xs):=by
 unfold evAppend at he;simp only at he;split at he
 ·rename_i el kq out xs' m' src hk hr1 hr hsrc;simp only [Hint.list.injEq] at hr1;obtain ⟨rfl,rfl⟩:=hr1;simp only [Zi] at he;obtain ⟨it,_,h2⟩:=he;split at h2
  ·simp only [Zf,Ze] at h2;obtain ⟨_,_,rfl,_⟩:=h2;refine ⟨?_,rfl⟩;unfold dataAt at hr;split at hr
   ·rename_i ds hd;exact (Zb.1 hd).1
   ·simp at hr
  ·simp at h2
 ·simp at he
theorem app_run (hT:Tab.ok P tt) (ro:Option Nat) {sw:List (Nat×Option V)} {ow:List (Nat×O)} {next:Act→World→Prop} {Q:Exit→Act→World→Prop} {id:Nat} {kx ko:List Nat} {n:Nat} {xs:List D}
 (he:evBApp tt o lk H id kx ko n xs=some (sw,ow,ps)) (hp:∀p∈ps,p) (hW:InvW Γ H bs Z w) (hI:InvF N Γ lk bs Z a w) (hd:dstOk N o.dst=true)
 (hap1:∀x v,lk x=some v→id∈v.ids→x∈kx) (hap2:∀(i:Nat) o,H[i]? = some o→id∈o.ids→i∈ko)
 (hn:∀a' bs' Z' w',InvW Γ (setH H ow) bs' Z' w'→InvF N Γ (updW lk sw) bs' Z' a' w'→next a' w'):o.wpIn (wideAt ro) 0 P a w next Q:=by
 unfold evBApp at he;split at he
 ·rename_i c ho;split at he
  ·rename_i s x t t' hc ha hty;split at he
   ·rename_i htt;split at he
    ·rename_i i e id' m hi hv;split at he
     ·rename_i hid;have hid:id'=id:=by simpa using hid
      subst hid;have htt:t=t':=by simpa using htt
      simp only [Zc,Ze] at he;obtain ⟨⟨v,T2,H2,qs⟩,hev,rfl,rfl,rfl⟩:=he;obtain ⟨T,hlkT,hIT⟩:=hI.exT;have hgv:getV T=getF lk:=by rw [←hlkT];exact (getF_lookup T).symm
      obtain ⟨hlt,rfl⟩:=evAppend_shape hev
      have hev':evAppend tt i (.list n xs) T H (getV T s) (getV T x)=some (v,onlyT (· != id') T,(onlyH (· != id') H).set id' (.data xs),qs):=by
       rw [hgv,hv,evAppend_T T rfl,hev];rfl
      refine wp_to_in (fun c' hc'=>by rw [ho] at hc';cases hc') ro (append_sound hT hW hIT ho hc ha hty htt hi hev' hp next Q ?_);intro cv bs' Z' w' hW' hI' hcv
      have hH2:setH H ((id',O.data xs)::ko.map (fun k=>(k,(H.getD k default).only (· != id'))))=(onlyH (· != id') H).set id' (.data xs):=by
       apply ZZ;intro j;rw [setH_get,Zn];simp only [ZV];by_cases hj:id'=j
       ·subst hj;rw [if_pos rfl,if_pos (by simpa [onlyH] using hlt)];simp [hlt]
       ·have:(j==id')=false:=by rw [beq_eq_false_iff_ne];exact fun e=>hj e.symm
        rw [if_neg hj,this];simp only;rw [lookup_map_ids (f:=fun k=>(H.getD k default).only (· != id'))];simp only [onlyH,Zj];cases hHj:H[j]? with
        | none=>rfl
        | some oj =>
         simp only [Zo];by_cases hk:j∈ko
         ·rw [if_pos hk];simp [hHj]
         ·rw [if_neg hk];simp only [Yv];rw [onlyO_ids];intro q hq;have:q≠id':=fun e=>hk (hap2 j oj hHj (e▸hq));simpa using this
      refine hn _ bs' Z' w' (by rw [hH2];exact hW') ?_;have hF:=(hI'.toF).put hd hcv;refine ⟨hF.size,hF.defers,fun y u hy=>?_⟩;refine hF.rel y u ?_;simp only [updW] at hy;rw [lookup_kills] at hy;simp only [upd];cases hdst:o.dst with
      | none =>
       rw [hdst] at hy;simp only [dstW,List.lookup_nil] at hy;rw [if_neg (by simp)];by_cases hk:y∈kx
       ·rw [if_pos hk] at hy;simp at hy
       ·rw [if_neg hk] at hy;simp only [Yv] at hy;rw [lookup_onlyT,show T.lookup y=lk y from congrFun hlkT y,hy];simp only [Zo];rw [only_ids];intro q hq;have:q≠id':=fun e=>hk (hap1 y u hy (e▸hq));simpa using this
      | some d =>
       rw [hdst] at hy;simp only [dstW,ZV,List.lookup_nil] at hy;by_cases hyd:y=d
       ·subst hyd;simp at hy;rw [if_pos rfl,hy]
       ·have:(y==d)=false:=by rw [beq_eq_false_iff_ne];exact hyd
        rw [this] at hy;rw [if_neg (by simpa using fun e=>hyd e.symm)];simp only at hy;by_cases hk:y∈kx
        ·rw [if_pos hk] at hy;simp at hy
        ·rw [if_neg hk] at hy;simp only [Yv] at hy;rw [lookup_onlyT,show T.lookup y=lk y from congrFun hlkT y,hy];simp only [Zo];rw [only_ids];intro q hq;have:q≠id':=fun e=>hk (hap1 y u hy (e▸hq));simpa using this
     ·simp at he
    ·simp at he
   ·simp at he
  ·simp at he
 ·simp at he
theorem hc_run (ro:Option Nat) {ids:List (Nat×Bool)} {r:V} {Hc:List O} {sw:List (Nat×Option V)} {ow:List (Nat×O)} {next:Act→World→Prop} {Q:Exit→Act→World→Prop}
 (he:evBHC P o ids r Hc lk H=some (sw,ow,ps)) (hp:∀p∈ps,p) (hW:InvW Γ H bs Z w) (hI:InvF N Γ lk bs Z a w) (hd:dstOk N o.dst=true)
 (hn:∀a' bs' Z' w',InvW Γ (setH H ow) bs' Z' w'→InvF N Γ (updW lk sw) bs' Z' a' w'→next a' w'):o.wpIn (wideAt ro) 0 P a w next Q:=by
 unfold evBHC at he;split at he
 ·rename_i hnd;split at he
  ·rename_i c ho;split at he
   ·rename_i f hc;split at he
    ·rename_i Hs olds hs hol;split at he
     ·rename_i v qs hval;split at he
      ·rename_i hcond;simp only [Zh] at hcond;simp only [Zf,Ze] at he;obtain ⟨rfl,rfl,rfl⟩:=he;have hlen:Hc.length=ids.length:=by simpa using hcond.2
       have hev:∃T2,evHCall P ids r Hc [] H (getF lk f) (c.args.toList.map (getF lk))=some (v,T2,mergeH (ids.map (·.1)) olds (stayIds (ids.map (·.1)) Hs) 0 H,qs):=by
        unfold evHCall;rw [if_pos hnd,hs,hol];have hdrop:(Hc.drop ids.length).map (O.re (outIds (ids.map (·.1)) H.length))=[]:=by rw [Yo (by omega)];rfl
        unfold hcVal at hval;split at hval
        ·rename_i e;try rw [e]
         simp only [Zf,Ze] at hval;obtain ⟨rfl,rfl⟩:=hval;simp only [hdrop,Yh];exact ⟨_,rfl⟩
        ·rename_i e;try rw [e]
         simp only [Zf,Ze] at hval;obtain ⟨rfl,rfl⟩:=hval;simp only [hdrop,Yh];exact ⟨_,rfl⟩
        ·simp at hval
       obtain ⟨T2,hev⟩:=hev;refine hcall_run hW ho hc (hI.get f) (by simp) ?_ hev hp ro next Q ?_
       ·intro j y d hy hd';rw [Zj,Zc] at hy;obtain ⟨u,hu,rfl⟩:=hy;rw [Array.getElem?_map,Zc] at hd';obtain ⟨u',hu',rfl⟩:=hd';rw [Array.getElem?_toList,hu'] at hu;simp at hu;subst hu;exact hI.get _
       ·intro Hs' c' bs2 Z' w' hs' _ h1 h2 h3 h4 h5;rw [hs] at hs';simp at hs';subst hs'
        have hH2:setH H ((ids.map (·.1)).zip olds)=mergeH (ids.map (·.1)) olds (stayIds (ids.map (·.1)) Hs) 0 H:=by
         apply ZZ;intro i;rw [setH_get,mergeH_get,Zw,zip_lookup (ids.map (·.1)) olds 0 i];cases hin:inIds (ids.map (·.1)) 0 i with
         | none =>
          cases hHi:H[i]? with
          | none=>rfl
          | some o=>simp only [Zo,Option.bind_none,Yv];rw [onlyO_ids _ _ (fun j _=>stay_all hcond.1 j)]
         | some j =>
          obtain ⟨_,hj⟩:=inIds_some _ _ _ _ hin;simp only [Yq] at hj;obtain ⟨hol1,_⟩:=oldH_get hol;have hjl:j<olds.length:=by rw [hol1];have:=(Zb.1 hj).1;simpa using this
          cases hHi:H[i]? with
          | none=>rfl
          | some o=>simp [Zd hjl]
        rw [←hH2] at h1;refine hn _ _ _ _ h1 ?_;rw [updW_dst];exact (hI.mono (fun i o hio=>h3 i o (stay_all hcond.1 i) hio) h4 h5).put hd h2
      ·simp at he
     ·simp at he
    ·simp at he
   ·simp at he
  ·simp at he
 ·simp at he
def pickB (is:List Nat) (bs:Bs):Bs:=is.map fun i=>(bs[i]?).getD none
theorem meetB_false' {xs ys:List Nat} (h:meetB xs ys=false):∀x∈xs,x ∉ ys:=by
 intro x hx hy;have:meetB xs ys=true:=List.any_eq_true.2 ⟨x,hx,memB_iff.2 hy⟩;rw [h] at this;simp at this
theorem inIds_none:∀(is:List Nat) (n i:Nat),inIds is n i=none↔i ∉ is:=by
 intro is;induction is with
 | nil=>intro n i;simp [inIds]
 | cons x is ih =>
  intro n i;simp only [inIds];by_cases h:x=i
  ·subst h;simp
  ·have h':¬i=x:=fun e=>h e.symm
   have:Nat.beq x i=false:=by
    cases hb:Nat.beq x i
    ·rfl
    ·exact absurd (Z9 hb) h
   simp [ih,h',h]
theorem selIs_get {n:Nat} {res:List Nat} {y:Nat} (hy:y<n):(selIs n res)[y]? = some (match inIds res 0 y with|some j=>n+j|none=>y):=by
 simp only [selIs,Zj,List.getElem?_range hy,Zo];cases inIds res 0 y<;>rfl
theorem selIs_lt {n:Nat} {res:List Nat} {y i:Nat} (h:(selIs n res)[y]? = some i):y<n:=by
 have:=(Zb.1 h).1;simpa [selIs] using this
theorem selIs_inj {n:Nat} {res:List Nat} {j j' i:Nat} (h:(selIs n res)[j]? = some i) (h':(selIs n res)[j']? = some i):j=j':=by
 have hj:=selIs_lt h;have hj':=selIs_lt h';rw [selIs_get hj] at h;rw [selIs_get hj'] at h';simp only [Zf] at h h';cases e:inIds res 0 j with
 | none =>
  rw [e] at h;cases e':inIds res 0 j' with
  | none=>rw [e'] at h';simp only at h h';omega
  | some a'=>rw [e'] at h';simp only at h h';omega
 | some a =>
  rw [e] at h;cases e':inIds res 0 j' with
  | none=>rw [e'] at h';simp only at h h';omega
  | some a' =>
   rw [e'] at h';simp only at h h';obtain ⟨_,g1⟩:=inIds_some _ _ _ _ e;obtain ⟨_,g2⟩:=inIds_some _ _ _ _ e';have:a=a':=by omega
   subst this;rw [g1] at g2;simpa using g2
theorem hcN_run (ro:Option Nat) {ids:List (Nat×Bool)} {res ends:List Nat} {r:V} {Hc:List O} {sw:List (Nat×Option V)} {ow:List (Nat×O)} {next:Act→World→Prop} {Q:Exit→Act→World→Prop}
 (he:evBHCN P o ids res ends r Hc lk H=some (sw,ow,ps)) (hp:∀p∈ps,p) (hW:InvW Γ H bs Z w) (hI:InvF N Γ lk bs Z a w) (hd:dstOk N o.dst=true)
 (hres:∀r,r∈res∨r∈ends→(∀x v,lk x=some v→r ∉ v.ids)∧(∀(i:Nat) o,H[i]? = some o→r ∉ o.ids))
 (hn:∀a' bs' Z' w',InvW Γ (setH H ow) bs' Z' w'→InvF N Γ (updW lk sw) bs' Z' a' w'→next a' w'):o.wpIn (wideAt ro) 0 P a w next Q:=by
 unfold evBHCN at he;split at he
 ·rename_i hnd0;simp only [Zh,Bool.not_eq_true',beq_iff_eq] at hnd0;obtain ⟨⟨⟨⟨hnd,hndr⟩,hmeet⟩,hends⟩,hrow⟩:=hnd0;split at he
  ·rename_i c ho;split at he
   ·rename_i f hc;split at he
    ·rename_i Hs olds hs hol;split at he
     ·rename_i v qs hval;split at he
      ·rename_i hcond;simp only [Zh] at hcond;simp only [Zf,Ze] at he;obtain ⟨rfl,rfl,rfl⟩:=he;have hlen:Hc.length=ids.length+res.length:=by simpa using hcond.2
       have hev:∃T2,evHCall P ids r Hc [] H (getF lk f) (c.args.toList.map (getF lk))=some (v,T2,mergeH (ids.map (·.1)) olds (stayIds (ids.map (·.1)) Hs) 0 H++(Hc.drop ids.length).map (O.re (outIds (ids.map (·.1)) H.length)),qs):=by
        unfold evHCall;rw [if_pos hnd,hs,hol];unfold hcVal at hval;split at hval
        ·rename_i e;try rw [e]
         simp only [Zf,Ze] at hval;obtain ⟨rfl,rfl⟩:=hval;exact ⟨_,rfl⟩
        ·rename_i e;try rw [e]
         simp only [Zf,Ze] at hval;obtain ⟨rfl,rfl⟩:=hval;exact ⟨_,rfl⟩
        ·simp at hval
       obtain ⟨T2,hev⟩:=hev;refine hcall_run hW ho hc (hI.get f) (by simp) ?_ hev hp ro next Q ?_
       ·intro j y d hy hd';rw [Zj,Zc] at hy;obtain ⟨u,hu,rfl⟩:=hy;rw [Array.getElem?_map,Zc] at hd';obtain ⟨u',hu',rfl⟩:=hd';rw [Array.getElem?_toList,hu'] at hu;simp at hu;subst hu;exact hI.get _
       ·intro Hs' c' bs2 Z' w' hs' _ h1 h2 h3 h4 h5;rw [hs] at hs';simp at hs';subst hs';generalize hnews:(Hc.drop ids.length).map (O.re (outIds (ids.map (·.1)) H.length))=news at h1 hn;have hnl:news.length=res.length:=by rw [←hnews];simp;omega
        obtain ⟨hol1,_⟩:=oldH_get hol;have hml:(mergeH (ids.map (·.1)) olds (stayIds (ids.map (·.1)) Hs) 0 H).length=H.length:=mergeH_length _ _ _ _ _;have hb2:bs2.length=H.length+res.length:=by rw [h1.lenH,ZE,hml,hnl]
        have hrn:∀q∈res,q<H.length∧∀o,H[q]? = some o→o.isData=true:=by
         intro q hq;have hr:=ZB.1 hrow q hq;refine ⟨?_,fun o ho=>?_⟩
         ·unfold isRow0 at hr;split at hr
          ·rename_i e;exact (Zb.1 e).1
          ·simp at hr
         ·rw [ho] at hr;unfold isRow0 at hr;split at hr
          ·rename_i e;simp at e;subst e;rfl
          ·simp at hr
        have hre:∀(i j:Nat) (q:Option (Nat×Nat)),inIds (selIs H.length res) 0 i=some j→bs2[i]? = some q→(pickB (selIs H.length res) bs2)[j]? = some q:=by
         intro i j q e1 e2;obtain ⟨_,e3⟩:=inIds_some _ 0 i j e1;simp only [Yq] at e3;simp only [pickB,Zj,e3,Zo,e2,ZL]
        have hget:∀(j:Nat) (q:Option (Nat×Nat)),(pickB (selIs H.length res) bs2)[j]? = some q→∃i,(selIs H.length res)[j]? = some i∧bs2[i]? = some q:=by
         intro j q e1;simp only [pickB,Zj,Zc] at e1;obtain ⟨i,hi,e2⟩:=e1;have hj:=selIs_lt hi;have hi2:=hi;rw [selIs_get hj] at hi2
         have hib:i<bs2.length:=by
          rw [hb2];cases e:inIds res 0 j with
          | none=>rw [e] at hi2;simp at hi2;omega
          | some a =>
           rw [e] at hi2;obtain ⟨_,g1⟩:=inIds_some _ _ _ _ e;have:=(Zb.1 g1).1;simp at hi2;omega
         rw [Zd hib] at e2;simp at e2;exact ⟨i,hi,by rw [Zd hib,e2]⟩
        have hkeep:∀(i:Nat) (q:Option (Nat×Nat)),i ∉ res→i ∉ ends→bs2[i]? = some q→(pickB (selIs H.length res) bs2)[i]? = some q:=by
         intro i q e1 e2 e3;have hi:i<H.length+res.length:=by rw [←hb2];exact (Zb.1 e3).1
         have hin:i<H.length:=by
          apply Nat.lt_of_not_le;intro hle;refine e2 ?_;rw [hends];exact ZX.2 ⟨i-H.length,by simp;omega,by omega⟩
         have:=selIs_get (res:=res) hin;rw [(inIds_none res 0 i).2 e1] at this;simp only [pickB,Zj,this,Zo,e3,ZL]
        have hrb:RV (pickB (selIs H.length res) bs2) Z' w' (v.re (inIds (selIs H.length res) 0)) c':=h2.re _ hre;have hstay:∀(i:Nat) (q:Option (Nat×Nat)),bs[i]? = some q→bs2[i]? = some q:=fun i q e=>h3 i q (stay_all hcond.1 i) e
        have hlook:∀y,(((ids.map (·.1)).zip (olds.map (O.re (inIds (selIs H.length res) 0)))++res.zip (news.map (O.re (inIds (selIs H.length res) 0))):List (Nat×O)).lookup y) =
         match inIds (ids.map (·.1)) 0 y with
         | some j=>(olds[j]?).map (O.re (inIds (selIs H.length res) 0))
         | none=>(inIds res 0 y).bind fun j=>(news[j]?).map (O.re (inIds (selIs H.length res) 0)):=by
         intro y;rw [List.lookup_append,zip_lookup _ _ 0,zip_lookup _ _ 0];cases e:inIds (ids.map (·.1)) 0 y with
         | none=>simp [Zj]
         | some j =>
          obtain ⟨_,hj⟩:=inIds_some _ _ _ _ e;have hjl:j<olds.length:=by rw [hol1];have:=(Zb.1 hj).1;simpa using this
          simp [Zj,Zd hjl]
        refine hn _ (pickB (selIs H.length res) bs2) Z' w' ?_ ?_
        ·constructor
         ·rw [setH_length];simp [pickB,selIs]
         ·intro y o' q hy hq;rw [setH_get,hlook] at hy;obtain ⟨i,g1,g2⟩:=hget y q hq;have hyn:=selIs_lt g1;rw [selIs_get hyn] at g1;cases hin:inIds (ids.map (·.1)) 0 y with
          | some j =>
           obtain ⟨_,hj⟩:=inIds_some _ _ _ _ hin;simp only [Yq] at hj;have hjl:j<olds.length:=by rw [hol1];have:=(Zb.1 hj).1;simpa using this
           have hym:y∈ids.map (·.1):=ZG hj;have hyr:=meetB_false' hmeet y hym;rw [(inIds_none res 0 y).2 hyr] at g1;simp only [Zf] at g1;subst g1;rw [hin] at hy;simp only [Zd hjl,Zo,ZL,Zd hyn,Zf] at hy;subst hy;refine (h1.objs y olds[j] q ?_ g2).re _ hre;rw [ZT (by rw [hml];exact hyn),mergeH_get,Zw,hin,Zd hyn];simp [Zd hjl]
          | none =>
           rw [hin] at hy;cases hir:inIds res 0 y with
           | some j =>
            obtain ⟨_,hj⟩:=inIds_some _ _ _ _ hir;simp only [Yq] at hj;have hjl:j<news.length:=by rw [hnl];exact (Zb.1 hj).1
            rw [hir] at g1 hy;simp only [Zf] at g1;subst g1;simp only [Za,Zd hjl,Zo,ZL,Zd hyn,Zf] at hy;subst hy;refine (h1.objs (H.length+j) news[j] q ?_ g2).re _ hre;rw [List.getElem?_append_right (by rw [hml];omega),hml,Nat.add_sub_cancel_left,Zd hjl]
           | none =>
            rw [hir] at g1 hy;simp only [Zf] at g1;subst g1;simp only [Option.bind_none,Yv,Zd hyn,Zo,Zf] at hy;have hyo:H[y]? = some o':=by rw [Zd hyn,hy]
            have hob:okO bs2 Z' w' o' q:=by
             refine h1.objs y o' q ?_ g2;rw [ZT (by rw [hml];exact hyn),mergeH_get,Zw,hin,hyo];simp only [Zo];rw [onlyO_ids _ _ (fun j _=>stay_all hcond.1 j)]
            have hk:=hob.only (fun i => !(memB i res||memB i ends)) (bs':=pickB (selIs H.length res) bs2) (fun i q' hpi hbi=>by
             simp only [Bool.not_eq_true',Bool.or_eq_false_iff] at hpi
             exact hkeep i q' (fun hm=>by rw [memB_iff.2 hm] at hpi;simp at hpi) (fun hm=>by rw [memB_iff.2 hm] at hpi;simp at hpi) hbi)
            rw [onlyO_ids] at hk
            ·exact hk
            ·intro i hi;simp only [Bool.not_eq_true',Bool.or_eq_false_iff];constructor
             ·cases e:memB i res
              ·rfl
              ·exact absurd hi ((hres i (.inl (memB_iff.1 e))).2 y o' hyo)
             ·cases e:memB i ends
              ·rfl
              ·exact absurd hi ((hres i (.inr (memB_iff.1 e))).2 y o' hyo)
         ·intro j j' b k k' e1 e2;obtain ⟨i,g1,g2⟩:=hget _ _ e1;obtain ⟨i',g3,g4⟩:=hget _ _ e2;have:=h1.nodup _ _ _ _ _ g2 g4;subst this;exact selIs_inj g1 g3
         ·intro j b k h;obtain ⟨i,_,g⟩:=hget _ _ h;exact h1.disj _ _ _ g
         ·intro j b k h;obtain ⟨i,_,g⟩:=hget _ _ h;exact h1.lt _ _ _ g
         ·exact h1.zlt
         ·exact h1.z0
         ·intro j b k h;obtain ⟨i,_,g⟩:=hget _ _ h;exact h1.fresh _ _ _ g
         ·exact h1.zfresh
         ·exact h1.size
         ·exact h1.frame
         ·exact h1.os
         ·exact h1.tape
         ·exact h1.output
         ·intro i p hpin;obtain ⟨k1,o1,k2,k3⟩:=hW.pin i p hpin;obtain ⟨m1,o2,m2,m3⟩:=h1.pin i p hpin;have hin:i<H.length:=(Zb.1 k2).1;have hir:i ∉ res:=fun hm=>by rw [(hrn i hm).2 o1 k2] at k3;simp at k3
          have hsel:=selIs_get (res:=res) hin;rw [(inIds_none res 0 i).2 hir] at hsel;refine ⟨by simp only [pickB,Zj,hsel,Zo,m1,ZL],?_⟩;rw [setH_get,hlook,k2];cases hinn:inIds (ids.map (·.1)) 0 i with
          | none =>
           rw [(inIds_none res 0 i).2 hir];exact ⟨o1,by simp,k3⟩
          | some j =>
           obtain ⟨_,hj⟩:=inIds_some _ _ _ _ hinn;simp only [Yq] at hj;have hjl:j<olds.length:=by rw [hol1];have:=(Zb.1 hj).1;simpa using this
           refine ⟨olds[j].re (inIds (selIs H.length res) 0),by simp [Zd hjl],?_⟩;rw [re_isData];rw [ZT (by rw [hml];exact hin),mergeH_get,Zw,hinn,k2] at m2;simp only [Zo,Zd hjl,ZL,Zf] at m2;rw [m2];exact m3
        ·rw [updW_dst]
         have hI2:InvF N Γ lk (pickB (selIs H.length res) bs2) Z' a w':=by
          refine ⟨hI.size,hI.defers.mono h4 h5,fun i x hx=>⟨(hI.rel i x hx).1,?_⟩⟩;refine ((hI.rel i x hx).2.mono hstay h4 h5).keep (fun j hj q hq=>hkeep j q (fun hm=>?_) (fun hm=>?_) hq)
          ·exact (hres j (.inl hm)).1 i x hx hj
          ·exact (hres j (.inr hm)).1 i x hx hj
         exact hI2.put hd hrb
      ·simp at he
     ·simp at he
    ·simp at he
   ·simp at he
  ·simp at he
 ·simp at he
theorem evB_sound (hT:Tab.ok P tt) {ops:Array Oper} {h:Hint} {ro:Option Nat} {sw:List (Nat×Option V)} {ow:List (Nat×O)} {next:Act→World→Prop} {Q:Exit→Act→World→Prop}
 (he:evB P tt N (ops.toList.map (·.dst)) o h lk H=some (sw,ow,ps)) (hp:∀p∈ps,p) (hW:InvW Γ H bs Z w) (hI:InvF N Γ lk bs Z a w)
 (hres:∀r,r∈resOf h→(∀x v,lk x=some v→r ∉ v.ids)∧(∀(i:Nat) o,H[i]? = some o→r ∉ o.ids))
 (happ:∀q,appOf h=some q→(∀x v,lk x=some v→q.1∈v.ids→x∈q.2.1)∧(∀(i:Nat) o,H[i]? = some o→q.1∈o.ids→i∈q.2.2))
 (hn:∀a' bs' Z' w',InvW Γ (setH H ow) bs' Z' w'→InvF N Γ (updW lk sw) bs' Z' a' w'→next a' w') :
 if Region.wanted o (yielded ops a.tmps) then o.wpIn (wideAt ro) 0 P a w next Q else next (a.put o.dst undef) w:=by
 have hwant:o.guard.isNone=true→Region.wanted o (yielded ops a.tmps)=true:=by
  intro hg;have:o.guard=none:=by simpa using hg
  simp [Region.wanted,this]
 unfold evB at he;split at he
 ·rename_i hd;split at he
  ·
   rename_i r;split at he
   ·rename_i hc;simp only [Zh] at hc;obtain ⟨hlk,hH⟩:=hres r (by simp [resOf]);rw [if_pos (hwant hc.2)];split at he
    ·rename_i t ho;simp only [Zc,Ze] at he;obtain ⟨i,hi,rfl,rfl,rfl⟩:=he;obtain ⟨z,hz1,hz2⟩:=run_zero hT hi w;have hz:=zero_rel hT (bs:=bs) (Z:=Z) (w:=w) hi z hz2
     obtain ⟨h1,h2⟩:=fill_row hW hI hc.1 hlk hH t hz (fun u hu=>by
      obtain ⟨y,_,rfl⟩:=ZX.1 hu
      simp [V.ids])
     refine wp_to_in (fun c hc=>by rw [ho] at hc;cases hc) ro ?_;unfold Oper.wp
     have hrun:(execOp a.eval o).run P w = .ok (.value (.pointer (some ⟨w.heap.size,0,none⟩))) (w.alloc (.cells z.cells t)):=by
      simp only [execOp,ho,Instr.alloc,Zy,hz1,Zm,newVar,newRow,run_newObj,ZJ];rfl
     rw [hrun];rw [←setH_one] at h1;refine hn _ _ _ _ h1 ?_;rw [updW_dst];refine h2.put hd (.ref r 0 w.heap.size z.cells.size ?_)
     rw [Zn,if_pos rfl,if_pos (by
      rw [hW.lenH];have:=hc.1;unfold isRow0 at this;split at this
      ·rename_i e;exact (Zb.1 e).1
      ·simp at this)]
    ·rename_i t x ho;simp only [Zc,Ze] at he;obtain ⟨vs,hv,rfl,rfl,rfl⟩:=he;have hr:=(hI.get x).one hv
     have hxr:r ∉ (getF lk x).ids:=by
      cases x with
      | tmp s =>
       simp only [getF];cases hs:lk s with
       | none=>simp [V.ids]
       | some u=>simpa using hlk s u hs
      | const c=>simp only [getF,constV];split<;>simp [V.ids]
      | func f=>simp [getF,V.ids,V.idsL]
      | global g=>simp [getF,V.ids]
     obtain ⟨h1,h2⟩:=fill_row hW hI hc.1 hlk hH t hr (fun u hu hi=>hxr (cells_ids hv u hu r hi));refine wp_to_in (fun c hc=>by rw [ho] at hc;cases hc) ro ?_;unfold Oper.wp
     have hrun:(execOp a.eval o).run P w = .ok (.value (.pointer (some ⟨w.heap.size,0,none⟩))) (w.alloc (.cells (a.eval x).cells t)):=by
      simp only [execOp,ho,Instr.box,Zy,Zm,newVar,newRow,run_newObj,ZJ];rfl
     rw [hrun];rw [←setH_one] at h1;refine hn _ _ _ _ h1 ?_;rw [updW_dst];refine h2.put hd (.ref r 0 w.heap.size (a.eval x).cells.size ?_)
     rw [Zn,if_pos rfl,if_pos (by
      rw [hW.lenH];have:=hc.1;unfold isRow0 at this;split at this
      ·rename_i e;exact (Zb.1 e).1
      ·simp at this)]
    ·rename_i t len parts ho;split at he
     ·rename_i hlen;simp only [Zi,Zc,Ze] at he;obtain ⟨i,hi,⟨e,vs⟩,hb,ds,hd2,rfl,rfl,rfl⟩:=he;obtain ⟨cs,el,hrun,hR,hs⟩:=run_buildSlice hT (P:=P) (w:=w) (Z:=Z) (fun p _=>hI.get p.2) hi hb;have:=allD_map hd2;dsimp only at this;subst this;have hRD:=hR.toD;have hl:ds.length=cs.size:=by have:=hRD.1;simp at this;omega
      obtain ⟨h1,h2⟩:=fill_data hW hI hc.1 hlk hH (ds:=ds) (cs:=cs) el (by rw [ZH (by simp;omega)];exact hRD) (by omega);refine wp_to_in (fun c hc=>by rw [ho] at hc;cases hc) ro ?_;unfold Oper.wp
      have hrun2:(execOp a.eval o).run P w = .ok (.value (.slice (some ⟨w.heap.size,0,none⟩) len len)) (w.alloc (.cells cs el)):=by
       simp only [execOp,ho,Zy,hrun,Zm,ZJ]
      rw [hrun2];rw [←setH_one] at h1;refine hn _ _ _ _ h1 ?_;rw [updW_dst];refine h2.put hd (.sl e r 0 len w.heap.size cs.size len ?_ (Zx _) (by omega) (Z3 (Zp hlen) (by omega)))
      rw [Zn,if_pos rfl,if_pos (by
       rw [hW.lenH];have:=hc.1;unfold isRow0 at this;split at this
       ·rename_i e;exact (Zb.1 e).1
       ·simp at this)]
     ·simp at he
    ·simp at he
   ·simp at he
  ·
   rename_i ids r Hc;split at he
   ·rename_i hg;rw [if_pos (hwant hg)];split at he
    ·exact hc_run ro he hp hW hI hd hn
    ·refine hcN_run ro he hp hW hI hd (fun r hr=>hres r ?_) hn;rw [←Z4,Yl] at hr;exact hr
   ·simp at he
  ·
   rename_i ids r;split at he
   ·rename_i hg;rw [if_pos (hwant hg)];split at he
    ·rename_i Hs hs;simp only [Zc,Ze] at he;obtain ⟨⟨sw',ow',qs⟩,he,rfl,rfl,rfl⟩:=he;have hq:ow'=ids.map fun i=>(i.1,H.getD i.1 default):=hp _ (Yb ..);refine hc_run ro he (fun p h=>hp p (Zz _ h)) hW hI hd ?_;intro a' bs' Z' w' h1 h2;refine hn a' bs' Z' w' ?_ h2
     have e:setH H ow'=setH H []:=by
      rw [hq];apply ZZ;intro i;rw [setH_get,setH_get];cases hi:H[i]? with
      | none=>rfl
      | some o' =>
       simp only [Zo,List.lookup_nil,Yv];congr 1;clear he hs hp hq hres happ;induction ids with
       | nil=>rfl
       | cons p ids ih =>
        simp only [ZW,ZV];split
        ·rename_i e;have:i=p.1:=by simpa using e
         subst this;simp [Zv,hi]
        ·exact ih
     rw [e] at h1;exact h1
    ·simp at he
   ·simp at he
  ·
   rename_i id kx ko n xs;split at he
   ·rename_i hg;rw [if_pos (hwant hg)];obtain ⟨hap1,hap2⟩:=happ _ rfl;simp only at hap1 hap2;exact app_run hT ro he hp hW hI hd hap1 hap2 hn
   ·simp at he
  ·
   split at he
   ·rename_i t x y ho;split at he
    ·rename_i hg;rw [if_pos (hwant hg)];split at he
     ·rename_i i id off hi hx;simp only [Zc,Ze] at he;obtain ⟨⟨v,T2,H2,qs⟩,hev,rfl,rfl,rfl⟩:=he;obtain ⟨T,hlkT,hIT⟩:=hI.exT;have hgv:getV T=getF lk:=by rw [←hlkT];exact (getF_lookup T).symm
      obtain ⟨rfl,rfl,hidl,n,rfl⟩:=evStore_set hev
      have hev':evStore i h T H (getV T x) (getV T y)=some (.top,T,H.set id n,qs):=by
       rw [evStore_T,hgv,hx,hev];rfl
      refine wp_to_in (fun c hc=>by rw [ho] at hc;cases hc) ro (store_sound hT hW hIT ho hi hev' hp next Q ?_);intro c bs' Z' w' hW' hI' hv
      have e:setH H [(id,(H.set id n).getD id default)]=H.set id n:=by
       rw [setH_one];congr 1;simp [hidl]
      refine hn _ bs' Z' w' (by rw [e];exact hW') ?_;rw [updW_dst,←hlkT];exact (hI'.toF).put hd hv
     ·simp at he
    ·simp at he
   ·
    split at he
    ·simp at he
    ·simp only [Zc,Ze] at he;obtain ⟨⟨v,qs⟩,hev,rfl,rfl,rfl⟩:=he;refine evVal_sound hT hev hp hW hI ?_;intro c w' Z' hg hv;refine hn _ bs Z' w' (by rw [setH_nil];exact hW.grow hg) ?_;rw [updW_dst];exact (hI.mono (fun _ _ h=>h) hg.zs (fun b hb=>hg.heap b (hW.zlt b hb))).put hd hv
 ·simp at he
end
end Go.Sx
end
section
namespace Go.Sx
open Go
set_option linter.unusedSimpArgs false
set_option linter.unusedVariables false
section
variable {P:Program} {tt:Tab} {rd:Bool} {N fl:Nat} {Γ:Ctx}
theorem getF_congr {lk lk':Nat→Option V} {dsts:List (Option Tmp)} {o:Oper} (hl:∀x∈looks dsts o,lk x=lk' x):∀x∈o.op.operands,getF lk x=getF lk' x:=by
 intro x hx;cases x with
 | tmp t =>
  simp only [getF];rw [hl t (Z7 _ (Yn.2 ⟨.tmp t,by simpa using hx,rfl⟩))]
 | _=>rfl
section congr
variable {H H':List O}
theorem rowAt_congr {id:Nat} (h:H[id]? = H'[id]?):rowAt H id=rowAt H' id:=by unfold rowAt;rw [h]
theorem evLoad_H {i:TI} {h:Hint} {v:V} (hv:∀id∈v.ids,H[id]? = H'[id]?):evLoad i h H v=evLoad i h H' v:=by
 cases v with
 | ref id off=>simp only [evLoad,rowAt_congr (hv id (by simp [V.ids]))]
 | _=>rfl
theorem evSlice_H {i:TI} {h:Hint} {lo hi:Option V} {v:V} (hv:∀id∈v.ids,H[id]? = H'[id]?):evSlice tt i h H lo hi v=evSlice tt i h H' lo hi v:=by
 cases v with
 | ref id off=>simp only [evSlice,rowAt_congr (hv id (by simp [V.ids]))]
 | d x =>
  cases x with
  | v c=>cases c<;>rfl
  | _=>rfl
 | _=>rfl
theorem evLook_H {i:TI} {h:Hint} {ok:Bool} {v k:V} (hv:∀id∈v.ids,H[id]? = H'[id]?):evLook P tt i h H ok v k=evLook P tt i h H' ok v k:=by
 cases v with
 | mp id=>cases k<;>simp only [evLook,hv id (by simp [V.ids])]
 | _=>rfl
theorem evLen_H {v:V} (hv:∀id∈v.ids,H[id]? = H'[id]?):evLen H v=evLen H' v:=by
 cases v with
 | mp id=>simp only [evLen,hv id (by simp [V.ids])]
 | d x =>
  cases x with
  | v c=>unfold evLen;split<;>simp_all
  | _=>rfl
 | _=>rfl
theorem argOk_H {v:V} {d:D} (hv:∀id∈v.ids,H[id]? = H'[id]?):argOk H v d=argOk H' v d:=by
 cases v with
 | sl e id off n =>
  cases d with
  | list t e' m ds=>cases t<;>simp only [argOk,rowAt_congr (hv id (by simp [V.ids]))]
  | _=>rfl
 | fn g fs cs=>cases fs<;>cases cs<;>rfl
 | _=>rfl
theorem argsOk_H:∀{vs:List V} {ds:List D},(∀v∈vs,∀id∈v.ids,H[id]? = H'[id]?)→argsOk H vs ds=argsOk H' vs ds:=by
 intro vs;induction vs with
 | nil=>intro ds _;cases ds<;>rfl
 | cons v vs ih =>
  intro ds h;cases ds with
  | nil=>rfl
  | cons d ds=>simp only [argsOk,argOk_H (h v (by simp)),ih (fun u hu=>h u (Zz _ hu))]
theorem evCall_H {h:Hint} {f:V} {vs:List V} (hv:∀v∈vs,∀id∈v.ids,H[id]? = H'[id]?):evCall P h H f vs=evCall P h H' f vs:=by
 unfold evCall;split
 ·split
  ·rfl
  ·rw [argsOk_H hv]
 ·rfl
 ·rfl
theorem evPure_H {o:Oper} {h:Hint} {get:Operand→V} (hg:∀x∈o.op.operands,∀id∈(get x).ids,H[id]? = H'[id]?):evPure P tt o h get H=evPure P tt o h get H':=by
 unfold evPure;cases ho:o.op with
 | load t x =>
  simp only;rw [ho] at hg;congr 1;funext i;exact evLoad_H (hg x (by simp [Op.operands]))
 | lookup t x k ok =>
  rw [ho] at hg;simp only;congr 1;funext i;exact evLook_H (hg x (by simp [Op.operands]))
 | slice t x lo hi mx =>
  rw [ho] at hg;cases mx with
  | none =>
   simp only;congr 1;funext i;exact evSlice_H (hg x (by simp [Op.operands]))
  | some _=>rfl
 | typeAssert x s t ok=>cases ok<;>rfl
 | call c =>
  rw [ho] at hg;simp only;cases hc:c.callee with
  | builtin b =>
   cases b<;>try rfl
   simp only;unfold evLenC;split
   ·rename_i x t ts ha ht;congr 1;funext i
    have hx:∀id∈(get x).ids,H[id]? = H'[id]? := hg x (by
     simp only [Op.operands,Call.operands,hc];have:x∈c.args:=by rw [←Array.mem_toList_iff,ha];simp
     simp [this])
    split
    ·exact evLen_H hx
    ·rfl
   ·rfl
  | value f =>
   simp only;refine evCall_H (fun v hv=>?_);obtain ⟨x,hx,rfl⟩:=ZX.1 hv;exact hg x (by simp only [Op.operands,Call.operands,hc];simp at hx;simp [hx])
  | _=>rfl
 | _=>rfl
theorem foot_mem {o:Oper} {h:Hint} {lk:Nat→Option V} {x:Operand} (hpo:pureOp o.op=false) (hx:x∈o.op.operands):∀id∈(getF lk x).ids,id∈footOf o h lk:=by
 intro id hid;unfold footOf;rw [hpo];refine Z7 _ (List.mem_flatMap.2 ⟨x,by simpa using hx,hid⟩)
theorem evPure_pure {o:Oper} {h:Hint} {get:Operand→V} (hpo:pureOp o.op=true):evPure P tt o h get H=evPure P tt o h get H':=by
 unfold evPure;cases ho:o.op<;>first|rfl|(rename_i ok;cases ok<;>rfl)|(rw [ho] at hpo;simp [pureOp] at hpo)
theorem bare_ids (v:V):∀id∈v.bare.ids,id∈v.ids:=by
 intro id h;cases v with
 | when b x=>simpa [V.bare,V.ids] using h
 | _=>exact h
theorem evVal_H {dsts:List (Option Tmp)} {o:Oper} {h:Hint} {lk:Nat→Option V} (hH:∀id∈footOf o h lk,H[id]? = H'[id]?):evVal P tt dsts o h lk H=evVal P tt dsts o h lk H':=by
 unfold evVal;split
 ·rfl
 ·cases hpo:pureOp o.op with
  | true=>exact evPure_pure hpo
  | false=>exact evPure_H (fun x hx id hid=>hH id (foot_mem hpo hx id hid))
 ·unfold evGuard;split
  ·rfl
  ·cases hpo:pureOp o.op with
   | true=>rw [evPure_pure (H:=H) (H':=H') hpo]
   | false=>rw [evPure_H (H:=H) (H':=H') (fun x hx id hid=>hH id (foot_mem hpo hx id (bare_ids _ id hid)))]
theorem subH_H:∀{is:List Nat} {ids:List (Nat×Bool)},(∀id∈ids.map (·.1),H[id]? = H'[id]?)→subH H is ids=subH H' is ids:=by
 intro is ids;induction ids with
 | nil=>intro _;rfl
 | cons p ids ih =>
  intro h;unfold subH;rw [h p.1 (by simp),ih (fun id hid=>h id (by simp only [ZW];exact Zz _ hid))]
theorem evStore_H {i:TI} {h:Hint} {id off:Nat} {y:V} (hH:H[id]? = H'[id]?) (hlen:H.length=H'.length) :
 (evStore i h [] H (.ref id off) y).map (fun q=>(q.2.2.1.getD id default,q.2.2.2))=(evStore i h [] H' (.ref id off) y).map (fun q=>(q.2.2.1.getD id default,q.2.2.2)):=by
 have hget:∀n:O,(H.set id n).getD id default=(H'.set id n).getD id default:=by
  intro n;by_cases hlt:id<H.length
  ·simp [hlt,hlen▸hlt]
  ·simp [hlt,show ¬id<H'.length by omega]
 unfold evStore;simp only;rw [hH];split
 ·split
  ·simp only [Zo];rw [hget]
  ·split
   ·split
    ·simp only [Zo];rw [hget]
    ·rfl
   ·rfl
 ·split
  ·simp only [Zo];rw [hget]
  ·split
   ·split
    ·simp only [Zo];rw [hget]
    ·rfl
   ·rfl
 ·split
  ·split
   ·simp only [Zo];rw [hget]
   ·rfl
  ·rfl
 ·split
  ·split
   ·simp only [Zo];rw [hget]
   ·rfl
  ·rfl
 ·rfl
theorem evAppend_H {i:TI} {n:Nat} {xs:List D} {e id m:Nat} {x:V} (hH:H[id]? = H'[id]?) :
 (evAppend tt i (.list n xs) [] H (.sl e id 0 m) x).map (fun q=>(q.1,q.2.2.2))=(evAppend tt i (.list n xs) [] H' (.sl e id 0 m) x).map (fun q=>(q.1,q.2.2.2)):=by
 unfold evAppend;have hd:dataAt H id=dataAt H' id:=by unfold dataAt;rw [hH]
 simp only;rw [hd];split
 ·rename_i o1 ty k out xs m src e1 e2 e3;cases tt.lookup o1 with
  | none=>rfl
  | some it =>
   simp only [Za];split<;>rfl
 ·rfl
theorem evBApp_congr {o:Oper} {h:Hint} {lk lk':Nat→Option V} {dsts:List (Option Tmp)} {id:Nat} {kx ko:List Nat} {n:Nat} {xs:List D} (hl:∀x∈looks dsts o,lk x=lk' x) (hH:∀id∈footOf o h lk,H[id]? = H'[id]?) (hko:∀k∈ko,H[k]? = H'[k]?) (hlen:H.length=H'.length) :
 evBApp tt o lk H id kx ko n xs=evBApp tt o lk' H' id kx ko n xs:=by
 have hg:=getF_congr hl;unfold evBApp;split
 ·rename_i c ho;split
  ·rename_i s x t t' hc ha hty
   have hs:s∈o.op.operands:=by
    have:s∈c.args:=by rw [←Array.mem_toList_iff,ha];simp
    rw [ho];simp [Op.operands,Call.operands,this]
   have hx:x∈o.op.operands:=by
    have:x∈c.args:=by rw [←Array.mem_toList_iff,ha];simp
    rw [ho];simp [Op.operands,Call.operands,this]
   rw [←hg s hs,←hg x hx];split
   ·split
    ·rename_i i e id' m hi hv;split
     ·rename_i hid;have hid:id'=id:=by simpa using hid
      subst hid;have hHi:H[id']? = H'[id']? := hH id' (foot_mem (by rw [ho];rfl) hs id' (by rw [hv];simp [V.ids]))
      have hk:ko.map (fun k=>(k,(H.getD k default).only (· != id')))=ko.map (fun k=>(k,(H'.getD k default).only (· != id'))):=by
       refine Z6 fun k hk=>?_;simp only [Zv,hko k hk]
      have:=evAppend_H (tt:=tt) (i:=i) (n:=n) (xs:=xs) (e:=e) (m:=m) (x:=getF lk x) hHi;cases e1:evAppend tt i (.list n xs) [] H (.sl e id' 0 m) (getF lk x) with
      | none =>
       rw [e1] at this;cases e2:evAppend tt i (.list n xs) [] H' (.sl e id' 0 m) (getF lk x) with
       | none=>rfl
       | some q=>rw [e2] at this;simp at this
      | some q =>
       rw [e1] at this;cases e2:evAppend tt i (.list n xs) [] H' (.sl e id' 0 m) (getF lk x) with
       | none=>rw [e2] at this;simp at this
       | some q' =>
        rw [e2] at this;simp only [Zo,Zf,Ze] at this;simp only [Zo,this.1,this.2,hk]
     ·rfl
    ·rfl
   ·rfl
  ·rfl
 ·rfl
theorem evBHC_congr {dsts:List (Option Tmp)} {o:Oper} {ids:List (Nat×Bool)} {r:V} {Hc:List O} {lk lk':Nat→Option V} (hl:∀x∈looks dsts o,lk x=lk' x) (hids:∀id∈ids.map (·.1),H[id]? = H'[id]?) (hlen:H.length=H'.length) :
 evBHC P o ids r Hc lk H=evBHC P o ids r Hc lk' H':=by
 have hg:=getF_congr hl;have hmap:∀{l:List Operand},(∀x∈l,x∈o.op.operands)→l.map (getF lk)=l.map (getF lk'):=fun h=>Z6 fun x hx=>hg x (h x hx);unfold evBHC;rw [subH_H hids,hlen];split
 ·split
  ·rename_i c ho;split
   ·rename_i f hc;rw [hg f (by rw [ho];simp [Op.operands,Call.operands,hc]),hmap (l:=c.args.toList) (fun x hx=>by rw [ho];simp at hx;simp [Op.operands,Call.operands,hx])]
   ·rfl
  ·rfl
 ·rfl
theorem evBHCN_congr {dsts:List (Option Tmp)} {o:Oper} {ids:List (Nat×Bool)} {res ends:List Nat} {r:V} {Hc:List O} {lk lk':Nat→Option V} (hl:∀x∈looks dsts o,lk x=lk' x) (hids:∀id∈ids.map (·.1),H[id]? = H'[id]?) (hr:∀id∈res,H[id]? = H'[id]?) (hlen:H.length=H'.length) :
 evBHCN P o ids res ends r Hc lk H=evBHCN P o ids res ends r Hc lk' H':=by
 have hg:=getF_congr hl;have hmap:∀{l:List Operand},(∀x∈l,x∈o.op.operands)→l.map (getF lk)=l.map (getF lk'):=fun h=>Z6 fun x hx=>hg x (h x hx)
 have hrow:(res.all fun q=>isRow0 H[q]?)=(res.all fun q=>isRow0 H'[q]?):=by
  rw [Bool.eq_iff_iff];simp only [ZB];exact ⟨fun h q hq=>by rw [←hr q hq];exact h q hq,fun h q hq=>by rw [hr q hq];exact h q hq⟩
 unfold evBHCN;rw [subH_H hids,hlen,hrow];split
 ·split
  ·rename_i c ho;split
   ·rename_i f hc;rw [hg f (by rw [ho];simp [Op.operands,Call.operands,hc]),hmap (l:=c.args.toList) (fun x hx=>by rw [ho];simp at hx;simp [Op.operands,Call.operands,hx])]
   ·rfl
  ·rfl
 ·rfl
theorem buildRow_congr {get get':Operand→V} (e:Nat):∀(ps:List (Nat×Operand)) (k:Nat),(∀p∈ps,get p.2=get' p.2)→buildRow e get k ps=buildRow e get' k ps:=by
 intro ps;induction ps with
 | nil=>intro k _;rfl
 | cons p ps ih =>
  intro k hp;obtain ⟨i,x⟩:=p;simp only [buildRow,hp (i,x) (by simp)];simp only [fun k=>ih k (fun p h=>hp p (by simp [h]))]
theorem evB_congr {dsts:List (Option Tmp)} {o:Oper} {h:Hint} {lk lk':Nat→Option V} (hl:∀x∈looks dsts o,lk x=lk' x) (hH:∀id∈footOf o h lk,H[id]? = H'[id]?) (hlen:H.length=H'.length) :
 evB P tt N dsts o h lk H=evB P tt N dsts o h lk' H':=by
 have hg:=getF_congr hl;have hmap:∀{l:List Operand},(∀x∈l,x∈o.op.operands)→l.map (getF lk)=l.map (getF lk'):=fun h=>Z6 fun x hx=>hg x (h x hx);unfold evB;split
 ·split
  ·rename_i r;have hr:H[r]? = H'[r]? := hH r (ZN _ (by simp [hintIds]));rw [hr];split
   ·split
    ·rfl
    ·rename_i t x ho;rw [hg x (by rw [ho];simp [Op.operands])]
    ·rename_i t len parts ho;have e:∀p∈parts.toList,getF lk p.2=getF lk' p.2:=fun p hp=>hg p.2 (by rw [ho];simp [Op.operands];exact ⟨p.1,by simpa using hp⟩);unfold evBuildRow;simp only [fun (e':Nat)=>buildRow_congr (get:=getF lk) (get':=getF lk') e' parts.toList 0 e]
    ·rfl
   ·rfl
  ·rename_i ids r Hc;have hids:∀id∈ids.map (·.1),H[id]? = H'[id]? := fun id hid=>hH id (ZN _ (by simpa [hintIds] using hid))
   have hsub:∀{l:List (Nat×Bool)},(∀q∈l,q∈ids)→∀id∈l.map (·.1),H[id]? = H'[id]? := by
    intro l hl' id hid;obtain ⟨q,hq,rfl⟩:=ZX.1 hid;exact hids q.1 (ZX.2 ⟨q,hl' q hq,rfl⟩)
   rw [evBHC_congr hl hids hlen,evBHCN_congr (res:=(flagged ids).take ((flagged ids).length / 2)) hl (hsub fun q hq=>(Ym.1 hq).1) (fun id hid=>hsub (l:=ids.filter (·.2)) (fun q hq=>(Ym.1 hq).1) id (List.mem_of_mem_take hid)) hlen]
  ·rename_i ids r;have hids:∀id∈ids.map (·.1),H[id]? = H'[id]? := fun id hid=>hH id (ZN _ (by simpa [hintIds] using hid));rw [subH_H hids]
   have hg:(ids.map fun i=>(i.1,H.getD i.1 default))=ids.map fun i=>(i.1,H'.getD i.1 default):=by
    refine Z6 fun i hi=>?_;simp only [Zv,hids i.1 (ZX.2 ⟨i,hi,rfl⟩)]
   split
   ·split
    ·rw [evBHC_congr hl hids hlen,hg]
    ·rfl
   ·rfl
  ·
   rename_i id kx ko n xs;split
   ·exact evBApp_congr hl (fun i hi=>hH i hi) (fun k hk=>hH k (ZN _ (by simpa [hintIds] using hk))) hlen
   ·rfl
  ·rename_i hx0 hn1 hn2 hn3;split
   ·rename_i t x y ho;split
    ·have hx:=hg x (by rw [ho];simp [Op.operands]);have hy:=hg y (by rw [ho];simp [Op.operands]);rw [←hx,←hy];cases ht:tt.lookup t with
     | none=>rfl
     | some i =>
      cases hfx:getF lk x with
      | ref id off =>
       simp only;have hid:H[id]? = H'[id]? := hH id (foot_mem (x:=x) (by rw [ho];rfl) (by rw [ho];simp [Op.operands]) id (by rw [hfx];simp [V.ids]));have:=evStore_H (i:=i) (h:=h) (off:=off) (y:=getF lk y) hid hlen;cases e1:evStore i h [] H (.ref id off) (getF lk y) with
       | none =>
        rw [e1] at this;cases e2:evStore i h [] H' (.ref id off) (getF lk y) with
        | none=>rfl
        | some q=>rw [e2] at this;simp at this
       | some q =>
        rw [e1] at this;cases e2:evStore i h [] H' (.ref id off) (getF lk y) with
        | none=>rw [e2] at this;simp at this
        | some q' =>
         rw [e2] at this;simp only [Zo,Zf,Ze] at this;simp only [Zo,this.1,this.2]
      | _=>rfl
    ·rfl
   ·split
    ·rfl
    ·have:evVal P tt dsts o h lk H=evVal P tt dsts o h lk' H':=by
      rw [evVal_H (H:=H) (H':=H') hH];exact evVal_congr hl
     rw [this]
 ·rfl
end congr
end
end Go.Sx
end
section
namespace Go.Sx
open Go
set_option linter.unusedSimpArgs false
set_option linter.unusedVariables false
section
variable {P:Program} {tt:Tab} {rd:Bool} {N fl:Nat} {Γ:Ctx}
theorem stS_from {A:Type} {S:Nat→Bool} {x:Nat}:∀(ws:List (List (Nat×A))) (σ:Nat→A) (k:Nat),stS S σ ws k x=σ x∨∃(j:Nat) (W:List (Nat×A)),ws[j]? = some W∧S (k+j)=true∧(x,stS S σ ws k x)∈W:=by
 intro ws;induction ws with
 | nil=>intro σ k;exact .inl rfl
 | cons W ws ih =>
  intro σ k;simp only [stS];rcases ih (if S k=true then updW σ W else σ) (k+1) with h|⟨j,W',h1,h2,h3⟩
  ·rw [h];split
   ·rename_i hs;by_cases hx:inKeys x W
    ·obtain ⟨a,ha⟩:=lookup_some hx;refine .inr ⟨0,W,rfl,by simpa using hs,?_⟩;simp only [updW,ha,ZL];clear h ih hx;induction W with
     | nil=>simp at ha
     | cons p W ih =>
      obtain ⟨y,b⟩:=p;rw [ZV] at ha;split at ha
      ·rename_i e;simp at e ha;subst e;subst ha;simp
      ·exact Zz _ (ih ha)
    ·exact .inl (updW_out hx)
   ·exact .inl rfl
  ·exact .inr ⟨j+1,W',by simpa using h1,by rw [show k+(j+1)=k+1+j by omega];exact h2,h3⟩
theorem evBody_run {dsts:List (Option Tmp)} {n:Nat} {lk0:Nat→Option V} {f0:Nat→O}:∀(os:List Oper) (hs:List Hint) (lk:Nat→Option V) (H:List O) (lk1:Nat→Option V) (H1:List O) (ps:List Prop) (rs:List BRec) (preS:List (List (Nat×Option V))) (preO:List (List (Nat×O))),
 evBody P tt N dsts os hs lk H=some (lk1,H1,ps,rs)→lk=stS (fun _=>true) lk0 preS 0→H=listOf n (stS (fun _=>true) f0 preO 0)→preS.length=preO.length →
 rs.length=os.length∧lk1=stS (fun _=>true) lk0 (preS++rs.map (·.sw)) 0∧H1=listOf n (stS (fun _=>true) f0 (preO++rs.map (·.ow)) 0) ∧
  ∀(i:Nat) o,os[i]? = some o→∃q h qs,rs[i]? = some q∧(∀p∈qs,p∈ps)∧q.foot=footOf o h (stS (fun _=>true) lk0 ((preS++rs.map (·.sw)).take (preS.length+i)) 0)∧q.res=resOf h∧q.app=appOf h ∧
   evB P tt N dsts o h (stS (fun _=>true) lk0 ((preS++rs.map (·.sw)).take (preS.length+i)) 0) (listOf n (stS (fun _=>true) f0 ((preO++rs.map (·.ow)).take (preS.length+i)) 0))=some (q.sw,q.ow,qs):=by
 intro os;induction os with
 | nil =>
  intro hs lk H lk1 H1 ps rs preS preO he h1 h2 _;simp [evBody] at he;obtain ⟨rfl,rfl,rfl,rfl⟩:=he;exact ⟨rfl,by simpa using h1,by simpa using h2,fun i o h=>by simp at h⟩
 | cons o os ih =>
  intro hs lk H lk1 H1 ps rs preS preO he h1 h2 hpl;unfold evBody at he;split at he
  ·simp at he
  ·rename_i sw ow p1 hev;split at he
   ·simp at he
   ·rename_i lk2 H2 qs rs2 hrest;simp only [Zf,Ze] at he;obtain ⟨rfl,rfl,rfl,rfl⟩:=he
    obtain ⟨g1,g2,g3,g4⟩:=ih hs.tail _ _ _ _ _ _ (preS++[sw]) (preO++[ow]) hrest (by rw [stS_app,←h1];simp [stS]) (by
     rw [h2,setH_listOf,stS_app];simp [stS]) (by simp [hpl])
    refine ⟨by simp [g1],by simpa using g2,by simpa using g3,fun i o' ho=>?_⟩;cases i with
    | zero =>
     simp at ho;subst ho;refine ⟨_,hs.headD .no,p1,rfl,fun p hp=>Z7 _ hp,?_,rfl,rfl,?_⟩
     ·simp only [ZW,Yp,List.take_left'];rw [←h1]
     ·simp only [ZW,Yp];rw [List.take_left' rfl,List.take_left' hpl.symm,←h1,←h2];exact hev
    | succ i =>
     obtain ⟨q,h,qs',k1,k2,k3,k4,k4a,k5⟩:=g4 i o' (by simpa using ho);have e1:(preS++[sw]).length+i=preS.length+(i+1):=by simp;omega
     rw [e1] at k3 k5;refine ⟨q,h,qs',by simpa using k1,fun p hp=>ZN _ (k2 p hp),by simpa using k3,k4,k4a,by simpa using k5⟩
theorem pairs2_at {dsts:List (Option Tmp)} {as:List Nat} {i:Nat} {oi:Oper} {qi:BRec}:∀(os:List Oper) (qs:List BRec) (k:Nat),pairs2 dsts as i oi qi os qs k=true→∀(j:Nat) oj qj,os[j]? = some oj→qs[j]? = some qj→apart2 dsts as i (k+j) oi oj qi qj=true:=by
 intro os;induction os with
 | nil=>intro qs k _ j oj qj h;simp at h
 | cons o os ih =>
  intro qs k h j oj qj ho hq;cases qs with
  | nil=>simp at hq
  | cons q qs =>
   simp only [pairs2,Zh] at h;cases j with
   | zero=>simp at ho hq;subst ho;subst hq;exact h.1
   | succ j=>have:=ih qs (k+1) h.2 j oj qj (by simpa using ho) (by simpa using hq);rw [show k+(j+1)=k+1+j by omega];exact this
theorem allPairs2_at {dsts:List (Option Tmp)} {as:List Nat}:∀(os:List Oper) (qs:List BRec) (k:Nat),allPairs2 dsts as os qs k=true→∀(i j:Nat) oi oj qi qj,i<j→os[i]? = some oi→os[j]? = some oj→qs[i]? = some qi→qs[j]? = some qj →
 apart2 dsts as (k+i) (k+j) oi oj qi qj=true:=by
 intro os;induction os with
 | nil=>intro qs k _ i j oi oj qi qj _ h;simp at h
 | cons o os ih =>
  intro qs k h i j oi oj qi qj hij hoi hoj hqi hqj;cases qs with
  | nil=>simp at hqi
  | cons q qs =>
   simp only [allPairs2,Zh] at h;obtain ⟨j,rfl⟩:∃j',j=j'+1:=⟨j-1,by omega⟩
   simp at hoj hqj;cases i with
   | zero =>
    simp at hoi hqi;subst hoi;subst hqi;have:=pairs2_at os qs (k+1) h.1 j oj qj hoj hqj;rw [Yp,show k+(j+1)=k+1+j by omega];exact this
   | succ i =>
    have:=ih qs (k+1) h.2 i j oi oj qi qj (by omega) (by simpa using hoi) hoj (by simpa using hqi) hqj;rw [show k+(i+1)=k+1+i by omega,show k+(j+1)=k+1+j by omega];exact this
theorem meetB_false {xs ys:List Nat} (h:meetB xs ys=false):∀x∈xs,x ∉ ys:=by
 intro x hx hy;have:meetB xs ys=true:=List.any_eq_true.2 ⟨x,hx,memB_iff.2 hy⟩;rw [h] at this;simp at this
theorem inKeys_mem {A:Type} {x:Nat} {W:List (Nat×A)}:inKeys x W↔x∈W.map (·.1):=by
 simp only [inKeys,ZX];constructor
 ·rintro ⟨a,ha⟩;exact ⟨(x,a),ha,rfl⟩
 ·rintro ⟨⟨y,a⟩,ha,rfl⟩;exact ⟨a,ha⟩
theorem AllP.of_mem:∀{ps:List Prop},(∀p∈ps,p)→AllP ps
 | [],_=>trivial
 | [p],h=>h p (by simp)
 | p::q::ps,h=>⟨h p (by simp),AllP.of_mem (ps:=q::ps) fun x hx=>h x (Zz _ hx)⟩
def IStep (N fl:Nat) (T:St) (H:List O) (T':St) (H':List O):Prop:=∀Γ a w,Γ.n0≤fl→Inv N Γ T H a w→Inv N Γ T' H' a w
def evAnyB (P:Program) (tt:Tab) (N m:Nat) (ops:Array Oper) (hs:List Hint) (mid:List Nat) (T:St) (H:List O):Option (St×List O×List Prop) :=
 if any0B ops.toList m then
  match evBody P tt N (ops.toList.map (·.dst)) (ops.toList.take m) hs (fun x=>T.lookup x) H with
  | none=>none
  | some (lk1,H1,ps,rs) =>
   if allPairs2 (ops.toList.map (·.dst)) (ancs ops.toList []) (ops.toList.take m) rs 0&&resFresh T H rs&&appFresh T H rs then some (mid.filterMap fun k=>(lk1 k).map fun v=>(k,v),H1,ps)
   else none
 else none
def evRegL (P:Program) (tt:Tab) (N:Nat) (dsts:List (Option Tmp)) (os:List Oper) (hs:List Hint) (ks:List Nat) (T:St) (H:List O):Option (St×List O×List Prop) :=
 (evOps P tt N dsts os hs T H).map fun q=>(keepT ks q.1,q.2.1,q.2.2)
theorem awp_anyS (hT:Tab.ok P tt) (hm:P.follows .mixedOrders=true) {id:Nat} {ops:Array Oper} (m:Nat) (hs hs2:List Hint) (mid ks:List Nat) {T:St} (T1:St) {H:List O} (H1:List O) (ps1:List Prop) (Tm:St) (Hm:List O) (T3:St) (H3:List O) (qs:List Prop) {Q:Exit→St→List O→Prop}
 (he:evAnyB P tt N m ops hs mid T H=some (T1,H1,ps1)) (hp:AllP ps1) (st:IStep N fl T1 H1 Tm Hm) (he2:evRegL P tt N (ops.toList.map (·.dst)) (ops.toList.drop m) hs2 ks Tm Hm=some (T3,H3,qs)) (hp2:AllP qs) (hq:Q .normal T3 H3):awp P rd N fl (.region id ops true) Q T H:=by
 intro ro hro Γ a w hfl hi;refine wpIn_region_any hm ?_;unfold evRegL at he2;simp only [Zc,Ze] at he2;obtain ⟨⟨T2,H2,qs'⟩,h2,rfl,rfl,rfl⟩:=he2;unfold evAnyB at he;split at he
 ·rename_i hcond;simp only [any0B,Zh] at hcond;obtain ⟨⟨hle,hback⟩,htail⟩:=hcond;simp at hle;split at he
  ·simp at he
  ·rename_i lk1 H1' ps1' rs h1;split at he
   ·rename_i hcond2;simp only [Zh] at hcond2;obtain ⟨⟨hpairs,hfresh⟩,hafresh⟩:=hcond2
    ·simp only [Zf,Ze] at he;obtain ⟨rfl,rfl,rfl⟩:=he;have hpm:=hp.mem;have hpm2:=hp2.mem;obtain ⟨bs,Z,hW,hI⟩:=hi;have hdrew:InvW Γ H bs Z { w with drawn:=w.drawn+1 }:=hW.congrW rfl rfl rfl rfl;have hI0:InvF N Γ (fun x=>T.lookup x) bs Z a { w with drawn:=w.drawn+1 }:=(hI.toF).mono (fun _ _ h=>h) (fun _ h=>h) (fun _ _=>rfl)
     let n:=H.length
     let f0:Nat→O:=fun i=>H.getD i default
     let lk0:Nat→Option V:=fun x=>T.lookup x
     have hH0:H=listOf n f0:=(listOf_self H).symm;obtain ⟨e1,e2,e3,e4⟩:=evBody_run (P:=P) (tt:=tt) (N:=N) (n:=n) (lk0:=lk0) (f0:=f0) (ops.toList.take m) hs lk0 H lk1 H1' ps1' rs [] [] h1 rfl (by simpa [stS] using hH0) rfl;simp only [List.nil_append,Z5,Zw] at e2 e3 e4
     let sws:=rs.map (·.sw)
     let ows:=rs.map (·.ow)
     have hrl:rs.length=m:=by rw [e1];simp;omega
     have hbk:∀(i:Nat) (o:Oper),ops.toList[i]? = some o→∀e∈o.after.toList,Region.binds .any e=true→e.on<i:=fun i o ho e he hb=>by
      have:=allBackB_at ops.toList 0 hback i o ho e he hb;omega
     let as:=ancs ops.toList []
     have htk:∀(i:Nat) o,i<m→ops.toList[i]? = some o→(ops.toList.take m)[i]? = some o:=fun i o hi ho=>by rw [Zr,if_pos hi];exact ho
     have hsw:∀(j:Nat) W,sws[j]? = some W→∃q,rs[j]? = some q∧q.sw=W∧j<m:=by
      intro j W h;simp only [sws,Zj,Zc] at h;obtain ⟨q,hq1,hq2⟩:=h;exact ⟨q,hq1,hq2,by rw [←hrl];exact (Zb.1 hq1).1⟩
     have how:∀(j:Nat) W,ows[j]? = some W→∃q,rs[j]? = some q∧q.ow=W∧j<m:=by
      intro j W h;simp only [ows,Zj,Zc] at h;obtain ⟨q,hq1,hq2⟩:=h;exact ⟨q,hq1,hq2,by rw [←hrl];exact (Zb.1 hq1).1⟩
     have hopl:∀j,j<m→∃o,ops.toList[j]? = some o:=by
      intro j hj;have:j<ops.toList.length:=by simp;omega
      exact ⟨_,Zd this⟩

     have tailw:∀(n k:Nat) (hs':List Hint) (Tk:St) (Hk:List O) (ps':List Prop) (listed:Array Bool) (a:Act) (w:World),n=ops.size-k→m≤k→k≤ops.size→listed.size=ops.size →
      (∀i,i<k→listed.getD i false=true)→(∀i,k≤i→listed.getD i false=false)→evOps P tt N (ops.toList.map (·.dst)) (ops.toList.drop k) hs' Tk Hk=some (T2,H2,ps')→(∀p∈ps',p) →
      Inv N Γ Tk Hk a w→∀fuel,n≤fuel→wpAnyIn (wideAt ro) 0 P .any ops (fun e a' w'=>∃T' H',Q e T' H'∧Inv N Γ T' H' a' w') fuel listed a w:=by
      intro n;induction n with
      | zero =>
       intro k hs' Tk Hk ps' listed a w hn hmk hkn hsz hdone hundone hev hps hinv fuel _;have hk:k=ops.size:=by omega
       have hnil:ops.toList.drop k=[]:=List.drop_eq_nil_of_le (by simp;omega);rw [hnil] at hev;simp [evOps] at hev;obtain ⟨rfl,rfl,rfl⟩:=hev
       have hready:Region.ready .any ops listed=[]:=by
        rw [List.eq_nil_iff_forall_not_mem];intro i hi;obtain ⟨o,ho,h3,_⟩:=(ready_iff hsz).1 hi;have:i<ops.size:=(ZP.1 ho).1;rw [hdone i (by omega)] at h3;simp at h3
       have hfin:∃T' H',Q .normal T' H'∧Inv N Γ T' H' a w:=⟨_,_,hq,hinv.keep ks⟩
       cases fuel with
       | zero=>exact ⟨hready,hfin⟩
       | succ fuel=>exact ⟨fun _=>hfin,fun i hi=>by rw [hready] at hi;simp at hi⟩
      | succ n ih =>
       intro k hs' Tk Hk ps' listed a w hn hmk hkn hsz hdone hundone hev hps hinv fuel hf;obtain ⟨fuel,rfl⟩:∃f,fuel=f+1:=⟨fuel-1,by omega⟩
       have hklt:k<ops.size:=by omega
       have hko:ops.toList[k]? = some ops[k]:=by simp [hklt]
       have hdrop:ops.toList.drop k=ops[k]::ops.toList.drop (k+1):=by
        rw [Yk (by simpa using hklt)];simp
       rw [hdrop] at hev;unfold evOps at hev;split at hev
       ·simp at hev
       ·rename_i T3 H3 p3 hv1;split at hev
        ·simp at hev
        ·rename_i T4 H4 p4 hv2;simp at hev;obtain ⟨rfl,rfl,rfl⟩:=hev
         have hkready:k∈Region.ready .any ops listed:=by
          refine (ready_iff hsz).2 ⟨ops[k],by simp [hklt],hundone k (Zx _),fun e he hb=>hdone _ (hbk k _ hko e he hb)⟩
         refine ⟨fun h=>by rw [h] at hkready;simp at hkready,fun i hi=>?_⟩;obtain ⟨o,ho,h3,h4⟩:=(ready_iff hsz).1 hi;have hilt:i<ops.size:=(ZP.1 ho).1
         have hik:i=k:=by
          rcases Nat.lt_trichotomy i k with hlt|heq|hgt
          ·rw [hdone i hlt] at h3;simp at h3
          ·exact heq
          ·have hanc:hasB (as.getD i 0) k=true:=tailB_at (ops.toList.length-m) m htail i (by omega) (by simp;omega) k hgt
           have hcl:=anc_closed (ops:=ops.toList) (L:=fun j=>listed.getD j false=true) hbk 0 [] rfl rfl i o (by simpa using ho) h4
            (fun j o' hj hL e he hb=>by
             have hjk:j<k:=by
              rcases Nat.lt_or_ge j k with h|h
              ·exact h
              ·rw [hundone j h] at hL;simp at hL
             exact hdone _ (by have:=hbk j o' hj e he hb;omega)) rfl k hanc
           rw [hundone k (Zx _)] at hcl;simp at hcl
         subst hik;unfold wpOpIn;rw [ho];have hoeq:o=ops[i]:=by (have:ops[i]? = some ops[i]:=by simp [hklt]);rw [ho] at this;simpa using this
         subst hoeq
         have:=evOne_sound (P:=P) (N:=N) hT (ops:=ops) (ro:=ro) (Q:=fun e a' w'=>∃T' H',Q e T' H'∧Inv N Γ T' H' a' w') (next:=wpAnyIn (wideAt ro) 0 P .any ops (fun e a' w'=>∃T' H',Q e T' H'∧Inv N Γ T' H' a' w') fuel (listed.setIfInBounds i true)) hv1
          (fun p hp'=>hps p (Z7 _ hp')) hinv
          (fun a' w' hi'=>ih (i+1) hs'.tail T3 H3 p4 (listed.setIfInBounds i true) a' w' (by omega) (by omega) (by omega) (by simp [hsz])
           (fun j hj=>by
            rw [getD_set (by omega)];split
            ·rfl
            ·exact hdone j (by omega))
           (fun j hj=>by
            rw [getD_set (by omega),if_neg (by omega)]
            exact hundone j (by omega)) hv2 (fun p hp'=>hps p (ZN _ hp')) hi' fuel (by omega))
         simp only [];split
         ·rename_i hw;rw [if_pos hw] at this;exact this
         ·rename_i hw;rw [if_neg hw] at this;exact ⟨fun _ _=>trivial,this⟩

     have bodyw:∀(c:Nat) (listed:Array Bool) (a:Act) (w:World) (bs:Bs) (Z:Nat→Prop),((List.range m).countP fun i => !listed.getD i false)=c→listed.size=ops.size→(∀i,m≤i→listed.getD i false=false) →
      (∀(i:Nat) (o:Oper),ops.toList[i]? = some o→listed.getD i false=true→∀e∈o.after.toList,Region.binds .any e=true→listed.getD e.on false=true) →
      InvW Γ (listOf n (stS (fun i=>listed.getD i false) f0 ows 0)) bs Z w→InvF N Γ (stS (fun i=>listed.getD i false) lk0 sws 0) bs Z a w→∀fuel,c+(ops.size-m)≤fuel →
      wpAnyIn (wideAt ro) 0 P .any ops (fun e a' w'=>∃T' H',Q e T' H'∧Inv N Γ T' H' a' w') fuel listed a w:=by
      intro c;induction c with
      | zero =>
       intro listed a w bs Z hcount hsz hunt hdown hW hI fuel hf
       have hall:∀i,i<m→listed.getD i false=true:=by
        intro i hi;have:=List.countP_eq_zero.1 hcount i (List.mem_range.2 hi);simpa using this
       have hlk:lk1=stS (fun i=>listed.getD i false) lk0 sws 0:=by
        rw [e2];funext x;refine stS_agree sws _ _ 0 rfl (fun j W hj _=>?_);obtain ⟨_,_,_,hjm⟩:=hsw j W hj;rw [Zw,hall j hjm]
       have hH1:H1'=listOf n (stS (fun i=>listed.getD i false) f0 ows 0):=by
        rw [e3];congr 1;funext x;refine stS_agree ows _ _ 0 rfl (fun j W hj _=>?_);obtain ⟨_,_,_,hjm⟩:=how j W hj;rw [Zw,hall j hjm]
       rw [←hlk] at hI;rw [←hH1] at hW;refine tailw (ops.size-m) m hs2 Tm Hm qs' listed a w rfl (Zx _) (by simpa using hle) hsz hall hunt h2 hpm2 (st Γ a w hfl ⟨bs,Z,hW,hI.size,hI.defers,fun i x hx=>?_⟩) fuel (by omega);simp only [Yn,Zc,Ze] at hx;obtain ⟨k,_,v,hv,rfl,rfl⟩:=hx;exact hI.rel k v hv
      | succ c ih =>
       intro listed a w bs Z hcount hsz hunt hdown hW hI fuel hf;obtain ⟨fuel,rfl⟩:∃f,fuel=f+1:=⟨fuel-1,by omega⟩
       have hsome:Region.ready .any ops listed≠[]:=by
        have hex:∃i,i<m∧listed.getD i false=false:=by
         have:0<(List.range m).countP fun i => !listed.getD i false:=by omega
         obtain ⟨i,hi,hb⟩:=List.countP_pos_iff.1 this;exact ⟨i,List.mem_range.1 hi,by simpa using hb⟩
        have hmin:∀q i,i≤q→i<m→listed.getD i false=false→∃j,j<m∧listed.getD j false=false∧∀l,l<j→listed.getD l false=true:=by
         intro q;induction q with
         | zero=>intro i hi him hl;exact ⟨i,him,hl,fun l hl'=>by omega⟩
         | succ q ihq =>
          intro i hi him hl;by_cases hex2:∃j,j<i∧listed.getD j false=false
          ·obtain ⟨j,hj,hjl⟩:=hex2;exact ihq j (by omega) (by omega) hjl
          ·refine ⟨i,him,hl,fun l hl'=>?_⟩;cases hv:listed.getD l false with
           | true=>rfl
           | false=>exact absurd ⟨l,hl',hv⟩ hex2
        obtain ⟨i,him,hil⟩:=hex;obtain ⟨j,hjm,hjl,hjall⟩:=hmin i i (Zx _) him hil;have hjs:j<ops.size:=by (have:ops.toList.length=ops.size:=by simp);omega
        intro hnil;have:j∈Region.ready .any ops listed:=(ready_iff hsz).2 ⟨ops[j],by simp [hjs],hjl,fun e he hb=>hjall _ (hbk j _ (by simp [hjs]) e he hb)⟩;rw [hnil] at this;simp at this
       refine ⟨fun h=>absurd h hsome,fun i hi=>?_⟩;obtain ⟨o,ho,h3,h4⟩:=(ready_iff hsz).1 hi;have hilt:i<ops.size:=(ZP.1 ho).1;have hoL:ops.toList[i]? = some o:=by simpa using ho
       have hclosed:=anc_closed (ops:=ops.toList) (L:=fun j=>listed.getD j false=true) hbk 0 [] rfl rfl
       have him:i<m:=by
        rcases Nat.lt_or_ge i m with h|h
        ·exact h
        ·exfalso;have:∀j,j<m→listed.getD j false=true:=fun j hj=>hclosed i o hoL h4 hdown rfl j (tailB_at (ops.toList.length-m) m htail i h (by simp;omega) j (by omega));have h0:((List.range m).countP fun i => !listed.getD i false)=0:=List.countP_eq_zero.2 (fun j hj=>by simp [this j (List.mem_range.1 hj)]);omega
       obtain ⟨q,h',qs',hqi,hqs,hfoot,hresq,happq,hval⟩:=e4 i o (htk i o him hoL)

       have hahead:∀(j:Nat) qj,j<i→rs[j]? = some qj→listed.getD j false=true∨((∀x∈qj.sw.map (·.1),x ∉ looks (ops.toList.map (·.dst)) o∧x ∉ q.sw.map (·.1))∧(∀x∈qj.ow.map (·.1),x ∉ q.foot∧x ∉ q.ow.map (·.1))):=by
        intro j qj hji hqj;obtain ⟨oj,hoj⟩:=hopl j (by omega);have hap:=allPairs2_at _ _ 0 hpairs j i oj o qj q hji (htk j oj (by omega) hoj) (htk i o him hoL) hqj hqi;simp only [Zw,apart2,Zh,ZY,Bool.not_eq_true'] at hap;rcases hap.1.1.1.1 with ha|⟨⟨⟨⟨⟨b1,b2⟩,b3⟩,b4⟩,b5⟩,b6⟩
        ·exact .inl (hclosed i o hoL h4 hdown rfl j ha)
        ·exact .inr ⟨fun x hx=>⟨meetB_false b1 x hx,meetB_false b2 x hx⟩,fun x hx=>⟨meetB_false b4 x hx,meetB_false b5 x hx⟩⟩
       have hbehind:∀(j:Nat) qj,i<j→rs[j]? = some qj→listed.getD j false=false∨((∀x∈qj.sw.map (·.1),x ∉ looks (ops.toList.map (·.dst)) o∧x ∉ q.sw.map (·.1))∧(∀x∈qj.ow.map (·.1),x ∉ q.foot∧x ∉ q.ow.map (·.1))):=by
        intro j qj hji hqj;have hjm:j<m:=by rw [←hrl];exact (Zb.1 hqj).1
        obtain ⟨oj,hoj⟩:=hopl j hjm;have hap:=allPairs2_at _ _ 0 hpairs i j o oj q qj hji (htk i o him hoL) (htk j oj hjm hoj) hqi hqj;simp only [Zw,apart2,Zh,ZY,Bool.not_eq_true'] at hap;rcases hap.1.1.1.1 with ha|⟨⟨⟨⟨⟨b1,b2⟩,b3⟩,b4⟩,b5⟩,b6⟩
        ·left;cases hv:listed.getD j false with
         | false=>rfl
         | true =>
          have:=hclosed j oj hoj (hdown j oj hoj hv) hdown rfl i ha;rw [h3] at this;simp at this
        ·exact .inr ⟨fun x hx=>⟨meetB_false b3 x hx,fun hx2=>meetB_false b2 x hx2 hx⟩,fun x hx=>⟨meetB_false b6 x hx,fun hx2=>meetB_false b5 x hx2 hx⟩⟩

       have hsame:∀x∈looks (ops.toList.map (·.dst)) o,stS (fun _=>true) lk0 (sws.take i) 0 x=stS (fun i=>listed.getD i false) lk0 sws 0 x:=by
        intro x hx;rw [stS_take sws i lk0 0];refine stS_agree sws _ _ 0 rfl (fun j W hj hk=>?_);obtain ⟨qj,hqj,hqW,hjm⟩:=hsw j W hj;simp only [Zw];have hxW:x∈qj.sw.map (·.1):=by rw [hqW];exact inKeys_mem.1 hk
        rcases Nat.lt_trichotomy j i with hlt|heq|hgt
        ·rcases hahead j qj hlt hqj with h|⟨h,_⟩
         ·simp [hlt,h]
         ·exact absurd hx (h x hxW).1
        ·subst heq;simp [h3]
        ·rcases hbehind j qj hgt hqj with h|⟨h,_⟩
         ·simp [show ¬j<i by omega,h]
         ·exact absurd hx (h x hxW).1
       have hsameO:∀x∈q.foot,stS (fun _=>true) f0 (ows.take i) 0 x=stS (fun i=>listed.getD i false) f0 ows 0 x:=by
        intro x hx;rw [stS_take ows i f0 0];refine stS_agree ows _ _ 0 rfl (fun j W hj hk=>?_);obtain ⟨qj,hqj,hqW,hjm⟩:=how j W hj;simp only [Zw];have hxW:x∈qj.ow.map (·.1):=by rw [hqW];exact inKeys_mem.1 hk
        rcases Nat.lt_trichotomy j i with hlt|heq|hgt
        ·rcases hahead j qj hlt hqj with h|⟨_,h⟩
         ·simp [hlt,h]
         ·exact absurd hx (h x hxW).1
        ·subst heq;simp [h3]
        ·rcases hbehind j qj hgt hqj with h|⟨_,h⟩
         ·simp [show ¬j<i by omega,h]
         ·exact absurd hx (h x hxW).1
       have hval':=(evB_congr (P:=P) (tt:=tt) (N:=N) (h:=h') hsame (H:=listOf n (stS (fun _=>true) f0 (ows.take i) 0)) (H':=listOf n (stS (fun i=>listed.getD i false) f0 ows 0)) (fun idx hid=>by
        rw [listOf_get,listOf_get];split
        ·rw [hsameO idx (by rw [hfoot];exact hid)]
        ·rfl) (by simp [listOf])).symm.trans hval

       have hresv:∀r,r∈resOf h'→(∀x v,stS (fun i=>listed.getD i false) lk0 sws 0 x=some v→r ∉ v.ids)∧(∀(k:Nat) o,(listOf n (stS (fun i=>listed.getD i false) f0 ows 0))[k]? = some o→r ∉ o.ids):=by
        intro r hr;have hqr:r∈q.res:=by rw [hresq];exact hr
        have hnn:∀(j:Nat) qj,rs[j]? = some qj→listed.getD j false=true→namesB r qj=false:=by
         intro j qj hqj hjl;have hjm:j<m:=by rw [←hrl];exact (Zb.1 hqj).1
         obtain ⟨oj,hoj⟩:=hopl j hjm;rcases Nat.lt_trichotomy j i with hlt|heq|hgt
         ·have hap:=allPairs2_at _ _ 0 hpairs j i oj o qj q hlt (htk j oj hjm hoj) (htk i o him hoL) hqj hqi;simp only [Zw,apart2,Zh,ZB,Bool.not_eq_true'] at hap;exact hap.1.1.2 r hqr
         ·subst heq;rw [h3] at hjl;simp at hjl
         ·have hap:=allPairs2_at _ _ 0 hpairs i j o oj q qj hgt (htk i o him hoL) (htk j oj hjm hoj) hqi hqj;simp only [Zw,apart2,Zh,ZB,ZY,Bool.not_eq_true'] at hap;rcases hap.1.1.1.2 r hqr with ha|hb
          ·have:=hclosed j oj hoj (hdown j oj hoj hjl) hdown rfl i ha;rw [h3] at this;simp at this
          ·exact hb
        have hfr:=ZB.1 hfresh q (ZG hqi);have hfr:=ZB.1 hfr r hqr;simp only [Zh,ZB,Bool.not_eq_true'] at hfr;constructor
        ·intro x v hx hrv;rcases stS_from (S:=fun i=>listed.getD i false) (x:=x) sws lk0 0 with hs|⟨j,W,hj,hS,hmem⟩
         ·rw [hx] at hs;have hm':=mem_of_lookup hs.symm;have:=hfr.1 _ hm';rw [memB_iff.2 hrv] at this;simp at this
         ·obtain ⟨qj,hqj,hqW,_⟩:=hsw j W hj;have hnm:=hnn j qj hqj (by simpa using hS);rw [hx,←hqW] at hmem
          have:namesB r qj=true:=by
           unfold namesB;rw [ZY];exact .inl (List.any_eq_true.2 ⟨_,hmem,memB_iff.2 hrv⟩)
          rw [hnm] at this;simp at this
        ·intro k o' hk hro;rw [listOf_get] at hk;split at hk
         ·rename_i hkn;have hk:=Option.some.inj hk;rcases stS_from (S:=fun i=>listed.getD i false) (x:=k) ows f0 0 with hs|⟨j,W,hj,hS,hmem⟩
          ·rw [hk] at hs
           have hm':o'∈H:=by
            rw [hs];simp only [f0,Zv,Zd (show k<H.length from hkn),ZL];exact Yu _
           have:=hfr.2 _ hm';rw [memB_iff.2 hro] at this;simp at this
          ·obtain ⟨qj,hqj,hqW,_⟩:=how j W hj;have hnm:=hnn j qj hqj (by simpa using hS);rw [hk,←hqW] at hmem
           have:namesB r qj=true:=by
            unfold namesB;rw [ZY];exact .inr (List.any_eq_true.2 ⟨_,hmem,memB_iff.2 hro⟩)
           rw [hnm] at this;simp at this
         ·simp at hk

       have happv:∀qq,appOf h'=some qq→(∀x v,stS (fun i=>listed.getD i false) lk0 sws 0 x=some v→qq.1∈v.ids→x∈qq.2.1)∧(∀(k:Nat) o,(listOf n (stS (fun i=>listed.getD i false) f0 ows 0))[k]? = some o→qq.1∈o.ids→k∈qq.2.2):=by
        intro qq hr;have hqr:q.app=some qq:=happq.trans hr
        have hnn:∀(j:Nat) qj,rs[j]? = some qj→listed.getD j false=true→namesA qq qj=false:=by
         intro j qj hqj hjl;have hjm:j<m:=by rw [←hrl];exact (Zb.1 hqj).1
         obtain ⟨oj,hoj⟩:=hopl j hjm;rcases Nat.lt_trichotomy j i with hlt|heq|hgt
         ·have hap:=allPairs2_at _ _ 0 hpairs j i oj o qj q hlt (htk j oj hjm hoj) (htk i o him hoL) hqj hqi;simp only [Zw,apart2,Zh,hqr,Bool.not_eq_true'] at hap;exact hap.2
         ·subst heq;rw [h3] at hjl;simp at hjl
         ·have hap:=allPairs2_at _ _ 0 hpairs i j o oj q qj hgt (htk i o him hoL) (htk j oj hjm hoj) hqi hqj;simp only [Zw,apart2,Zh,hqr,ZY,Bool.not_eq_true'] at hap;rcases hap.1.2 with ha|hb
          ·have:=hclosed j oj hoj (hdown j oj hoj hjl) hdown rfl i ha;rw [h3] at this;simp at this
          ·exact hb
        have hfr:=ZB.1 hafresh q (ZG hqi);rw [hqr] at hfr;simp only [Zh,ZB,ZY,Bool.not_eq_true'] at hfr;constructor
        ·intro x v hx hrv;rcases stS_from (S:=fun i=>listed.getD i false) (x:=x) sws lk0 0 with hs|⟨j,W,hj,hS,hmem⟩
         ·rw [hx] at hs;have hm':=mem_of_lookup hs.symm;rcases hfr.1 _ hm' with h|h
          ·rw [memB_iff.2 hrv] at h;simp at h
          ·exact memB_iff.1 h
         ·obtain ⟨qj,hqj,hqW,_⟩:=hsw j W hj;have hnm:=hnn j qj hqj (by simpa using hS);rw [hx,←hqW] at hmem;refine Decidable.byContradiction fun hnk=>?_
          have:namesA qq qj=true:=by
           unfold namesA;rw [ZY];refine .inl (List.any_eq_true.2 ⟨_,hmem,?_⟩)
           have h2:memB x qq.2.1=false:=by
            cases hb:memB x qq.2.1 with
            | false=>rfl
            | true=>exact absurd (memB_iff.1 hb) hnk
           have h3':memB qq.1 (vIds (some v))=true:=memB_iff.2 hrv;simp only [h2,h3',Zs,ZI]
          rw [hnm] at this;simp at this
        ·intro k o' hk hro;rw [listOf_get] at hk;split at hk
         ·rename_i hkn;have hk:=Option.some.inj hk;rcases stS_from (S:=fun i=>listed.getD i false) (x:=k) ows f0 0 with hs|⟨j,W,hj,hS,hmem⟩
          ·rw [hk] at hs
           have hm':(o',k)∈H.zipIdx:=by
            rw [List.mem_zipIdx_iff_getElem?,hs];simp only [f0,Zv,Zd (show k<H.length from hkn),ZL]
           rcases hfr.2 _ hm' with h|h
           ·simp only at h;rw [memB_iff.2 hro] at h;simp at h
           ·exact memB_iff.1 h
          ·obtain ⟨qj,hqj,hqW,_⟩:=how j W hj;have hnm:=hnn j qj hqj (by simpa using hS);rw [hk,←hqW] at hmem;refine Decidable.byContradiction fun hnk=>?_
           have:namesA qq qj=true:=by
            unfold namesA;rw [ZY];refine .inr (List.any_eq_true.2 ⟨_,hmem,?_⟩)
            have h2:memB k qq.2.2=false:=by
             cases hb:memB k qq.2.2 with
             | false=>rfl
             | true=>exact absurd (memB_iff.1 hb) hnk
            have h3':memB qq.1 o'.ids=true:=memB_iff.2 hro;simp only [h2,h3',Zs,ZI]
           rw [hnm] at this;simp at this
         ·simp at hk
       unfold wpOpIn;rw [ho];have hS':∀j,j≠i→(listed.setIfInBounds i true).getD j false=listed.getD j false:=fun j hj=>by rw [getD_set (by omega),if_neg hj]
       have hSi:(listed.setIfInBounds i true).getD i false=true:=by rw [getD_set (by omega),if_pos rfl]
       have hadd:stS (fun j=>(listed.setIfInBounds i true).getD j false) lk0 sws 0=updW (stS (fun j=>listed.getD j false) lk0 sws 0) q.sw:=by
        refine stS_add (i:=i) (by simp only [sws,Zj,hqi,Zo]) hSi hS' (fun j W' x hj hlt hjl hx hx'=>?_);obtain ⟨qj,hqj,hqW,_⟩:=hsw j W' hj;rcases hbehind j qj hlt hqj with h|⟨h,_⟩
        ·rw [h] at hjl;simp at hjl
        ·exact (h x (by rw [hqW];exact inKeys_mem.1 hx')).2 (inKeys_mem.1 hx)
       have haddO:stS (fun j=>(listed.setIfInBounds i true).getD j false) f0 ows 0=updW (stS (fun j=>listed.getD j false) f0 ows 0) q.ow:=by
        refine stS_add (i:=i) (by simp only [ows,Zj,hqi,Zo]) hSi hS' (fun j W' x hj hlt hjl hx hx'=>?_);obtain ⟨qj,hqj,hqW,_⟩:=how j W' hj;rcases hbehind j qj hlt hqj with h|⟨_,h⟩
        ·rw [h] at hjl;simp at hjl
        ·exact (h x (by rw [hqW];exact inKeys_mem.1 hx')).2 (inKeys_mem.1 hx)
       have:=evB_sound (P:=P) (N:=N) (ro:=ro) hT (ops:=ops) (Q:=fun e a' w'=>∃T' H',Q e T' H'∧Inv N Γ T' H' a' w')
        (next:=wpAnyIn (wideAt ro) 0 P .any ops (fun e a' w'=>∃T' H',Q e T' H'∧Inv N Γ T' H' a' w') fuel (listed.setIfInBounds i true)) hval' (fun p hp'=>hpm p (hqs p hp')) hW hI hresv happv
        (fun a' bs' Z' w' hW' hI'=>by
         refine ih (listed.setIfInBounds i true) a' w' bs' Z' ?_ (by simp [hsz]) ?_ ?_ (by rw [haddO,←setH_listOf];exact hW') (by rw [hadd];exact hI') fuel (by omega)
         ·have hc:=count_set (fun j => !listed.getD j false) i m;rw [if_pos ⟨him,by simp [h3]⟩,hcount] at hc
          have hfun:(fun j => !(listed.setIfInBounds i true).getD j false)=fun j=>(!listed.getD j false)&&j != i:=by
           funext j;rw [getD_set (by omega)];by_cases hji:j=i
           ·subst hji;simp
           ·rw [if_neg hji,show (j != i)=true by simpa using hji,ZD]
          rw [hfun];omega
         ·intro j hj;rw [getD_set (by omega),if_neg (by omega)];exact hunt j hj
         ·intro j oj hoj hl e he hb;rw [getD_set (by omega)] at hl ⊢;split
          ·rfl
          ·by_cases hji:j=i
           ·subst hji;rw [hoL] at hoj;simp at hoj;subst hoj;exact h4 e he hb
           ·rw [if_neg hji] at hl
            exact hdown j oj hoj hl e he hb)
       simp only [];split
       ·rename_i hw;rw [if_pos hw] at this;exact this
       ·rename_i hw;rw [if_neg hw] at this;exact ⟨fun _ _=>trivial,this⟩
     have hnl:∀i,(Array.replicate ops.size false).getD i false=false:=by
      intro i;simp only [Zu,Array.getElem?_replicate];split<;>rfl
     refine bodyw m (Array.replicate ops.size false) a _ bs Z ?_ (by simp) (fun i _=>hnl i) (fun i o ho hl=>by rw [hnl] at hl;simp at hl) ?_ ?_ ops.size (by have hl2:ops.toList.length=ops.size:=YC;omega)
     ·rw [List.countP_eq_length.2 (fun i _=>by rw [hnl];rfl)];simp
     ·rw [stS_none ows _ f0 0 (fun j _=>hnl j),←hH0];exact hdrew
     ·rw [stS_none sws _ lk0 0 (fun j _=>hnl j)];exact hI0
   ·simp at he
 ·simp at he
theorem awp_any (hT:Tab.ok P tt) (hm:P.follows .mixedOrders=true) {id m:Nat} {ops:Array Oper} {hs:List Hint} {mid ks:List Nat} {T T':St} {H H':List O} {ps:List Prop} {Q:Exit→St→List O→Prop}
 (he:evAny P tt N m ops hs mid ks T H=some (T',H',ps)) (hp:AllP ps) (hq:Q .normal T' H'):awp P rd N fl (.region id ops true) Q T H:=by
 unfold evAny at he;split at he
 ·rename_i hc;split at he
  ·simp at he
  ·rename_i lk1 H1 ps1 rs h1;split at he
   ·rename_i hc2;split at he
    ·simp at he
    ·rename_i T2 H2 qs h2;simp at he;obtain ⟨rfl,rfl,rfl⟩:=he;refine awp_anyS hT hm m hs (hs.drop m) mid ks (mid.filterMap fun k=>(lk1 k).map fun v=>(k,v)) H1 ps1 _ _ (keepT ks T2) H2 qs ?_ ?_ (fun _ _ _ _ h=>h) ?_ ?_ hq
     ·unfold evAnyB;rw [if_pos hc,h1];simp only;rw [if_pos hc2]
     ·exact AllP.of_mem fun p hp'=>hp.mem p (Z7 _ hp')
     ·unfold evRegL;rw [h2];rfl
     ·exact AllP.of_mem fun p hp'=>hp.mem p (ZN _ hp')
   ·simp at he
 ·simp at he
theorem awp_res {c:Code} {T:St} {H:List O} {Q:Exit→St→List O→Prop} (H':List O) (hH:H++[.data []]=H') (h:awp P rd N fl c Q T H'):awp P rd N fl c Q T H:=by
 subst hH;intro ro hro Γ a w hm hi;obtain ⟨bs,Z,hW,hI⟩:=hi;refine h ro hro Γ a w hm ⟨bs++[none],Z,?_,hI.mono bs_push (fun _ h=>h) (fun _ _=>rfl)⟩
 have hcase:∀(i:Nat) (p:Nat×Nat),(bs++[none])[i]? = some (some p)→bs[i]? = some (some p):=by
  intro i p h;rw [ZA] at h;split at h
  ·exact h
  ·rcases Yc (i-bs.length) with h0|h0
   ·rw [h0] at h;simp at h
   ·rw [ZC (by simp;omega)] at h;simp at h
 constructor
 ·simp [hW.lenH]
 ·intro i o q ho hq;rw [ZA] at ho hq;rw [←hW.lenH] at ho;split at ho
  ·rename_i hlt;rw [if_pos hlt] at hq;exact (hW.objs i o q ho hq).mono bs_push (fun _ h=>h) (fun _ _=>rfl) (fun _ _ _=>rfl)
  ·rename_i hlt;rw [if_neg hlt] at hq;rcases Yc (i-bs.length) with h0|h0
   ·rw [h0] at ho hq;simp at ho hq;subst ho;subst hq;rfl
   ·rw [ZC (by simp;omega)] at ho;simp at ho
 ·intro i j b k k' hi hj;exact hW.nodup i j b k k' (hcase _ _ hi) (hcase _ _ hj)
 ·intro i b k hi;exact hW.disj i b k (hcase _ _ hi)
 ·intro i b k hi;exact hW.lt i b k (hcase _ _ hi)
 ·exact hW.zlt
 ·exact hW.z0
 ·intro i b k hi;exact hW.fresh i b k (hcase _ _ hi)
 ·exact hW.zfresh
 ·exact hW.size
 ·exact hW.frame
 ·exact hW.os
 ·exact hW.tape
 ·exact hW.output
 ·intro i p hp;obtain ⟨h1,o,h2,h3⟩:=hW.pin i p hp;exact ⟨bs_push _ _ h1,o,by rw [ZT (Zb.1 h2).1];exact h2,h3⟩
end
end Go.Sx
end
section
namespace Go.Sx
open Go
set_option linter.unusedSimpArgs false
set_option linter.unusedVariables false
def litEq:Value→Value→Bool
 | .int k a,.int k' b=>IntKind.same k k'&&(a==b)
 | .bool a,.bool b=>a==b
 | .string a,.string b=>Nat.beq a.data.toList.length 0&&Nat.beq b.data.toList.length 0
 | .pointer none,.pointer none=>true
 | .slice none 0 0,.slice none 0 0=>true
 | .map none,.map none=>true
 | .nilFunc,.nilFunc=>true
 | .nilIface,.nilIface=>true
 | _,_=>false
theorem litEq_eq {a b:Value} (h:litEq a b=true):a=b∧a.oneCell'=true:=by
 unfold litEq at h;split at h
 ·simp at h;rw [same_eq h.1,h.2];exact ⟨rfl,rfl⟩
 ·simp at h;rw [h];exact ⟨rfl,rfl⟩
 ·rename_i a b;rw [Zh,Nat.beq_eq,Nat.beq_eq] at h;obtain ⟨⟨a⟩⟩:=a;obtain ⟨⟨b⟩⟩:=b;have h1:a=[]:=ZO h.1;have h2:b=[]:=ZO h.2;rw [h1,h2];exact ⟨rfl,rfl⟩
 all_goals first
  | exact ⟨rfl,rfl⟩
  | simp at h
def litsEq:List Value→List Value→Bool
 | [],[]=>true
 | a::as,b::bs=>litEq a b&&litsEq as bs
 | _,_=>false
theorem litsEq_eq:∀{as bs:List Value},litsEq as bs=true→as=bs∧∀c∈bs,c.oneCell'=true:=by
 intro as;induction as with
 | nil=>intro bs h;cases bs<;>simp [litsEq] at h;simp
 | cons a as ih =>
  intro bs h;cases bs with
  | nil=>simp [litsEq] at h
  | cons b bs =>
   simp [litsEq] at h;obtain ⟨rfl,h1⟩:=litEq_eq h.1;obtain ⟨rfl,h2⟩:=ih h.2;refine ⟨rfl,fun c hc=>?_⟩;rcases ZM.1 hc with rfl|hc
   ·exact h1
   ·exact h2 c hc
def isAggD:TypeDesc→Bool
 | .struct _ | .array _ _=>true
 | _=>false
def fieldsB (P:Program):List Field→List (Nat×Nat×Bool)→Bool
 | [],[]=>true
 | f::fs,(off,s,g)::ps =>
  (match P.info? f.type,P.underlying f.type with
   | some i,some u=>Nat.beq f.offset off&&Nat.beq i.size s&&(isAggD u==g)&&Nat.blt 0 s
   | _,_=>false)&&fieldsB P fs ps
 | _,_=>false
theorem fieldsB_ok {P:Program}:∀{fs:List Field} {ps:List (Nat×Nat×Bool)},fieldsB P fs ps=true→ps.length=fs.length∧∀(j:Nat) (f:Field),fs[j]? = some f →
 ∃i u,P.info? f.type=some i∧P.underlying f.type=some u∧ps[j]? = some (f.offset,i.size,(u matches .struct _ | .array _ _))∧0<i.size:=by
 intro fs;induction fs with
 | nil=>intro ps h;cases ps<;>simp [fieldsB] at h;simp
 | cons f fs ih =>
  intro ps h;cases ps with
  | nil=>simp [fieldsB] at h
  | cons p ps =>
   obtain ⟨off,s,g⟩:=p;simp only [fieldsB,Zh] at h;obtain ⟨h1,h2⟩:=h;obtain ⟨h3,h4⟩:=ih h2;refine ⟨by simp [h3],fun j f' hj=>?_⟩;cases j with
   | zero =>
    simp at hj;subst hj;split at h1
    ·rename_i i u hi hu;simp at h1;obtain ⟨⟨⟨e1,e2⟩,e3⟩,e4⟩:=h1;refine ⟨i,u,hi,hu,?_,by omega⟩;subst e1;subst e2;subst e3;simp only [List.getElem?_cons_zero,Zf,Ze,true_and];cases u<;>rfl
    ·simp at h1
   | succ j=>simp at hj;simpa using h4 j f' hj
def kindB (P:Program):TK→TypeDesc→Bool
 | .int k,.int k'=>IntKind.same k k'
 | .bool,.bool=>true
 | .string,.string=>true
 | .struct fs,.struct fields=>fieldsB P fields.toList fs
 | .array n e,.array n' e'=>Nat.beq n n'&&Nat.beq e e'
 | .slice e,.slice e'=>Nat.beq e e'
 | .map k v,.map k' v'=>Nat.beq k k'&&Nat.beq v v'
 | .other,.pointer _=>true
 | .other,.func .. => true
 | _,_=>false
theorem kindB_ok {P:Program} {k:TK} {d:TypeDesc} (h:kindB P k d=true):TK.ok P k d:=by
 unfold kindB at h;split at h
 ·simp only [TK.ok];rw [same_eq h]
 ·rfl
 ·rfl
 ·obtain ⟨h1,h2⟩:=fieldsB_ok h;exact ⟨_,rfl,by simpa using h1,fun j f hf=>h2 j f (by simpa using hf)⟩
 ·simp only [Zh,Nat.beq_eq] at h;simp only [TK.ok];rw [h.1,h.2]
 ·simp only [Nat.beq_eq] at h;simp only [TK.ok];rw [h]
 ·simp only [Zh,Nat.beq_eq] at h;simp only [TK.ok];rw [h.1,h.2]
 ·rfl
 ·rfl
 ·simp at h
def tiB (P:Program) (t:TypeId) (i:TI):Bool :=
 match P.info? t,P.underlying t with
 | some info,some d =>
  match info.zero with
  | some z=>Nat.beq info.size i.size&&Nat.beq info.bytes i.bytes&&litsEq z.cells.toList i.zero&&kindB P i.kind d&&(i.agg==isAggD d)&&Nat.beq i.zero.length i.size&&(z.isAgg==i.agg)
  | none=>false
 | _,_=>false
def tabB (P:Program):Tab→Bool
 | []=>true
 | (t,i)::tt=>tiB P t i&&tabB P tt
theorem tabB_ok {P:Program}:∀{tt:Tab},tabB P tt=true→Tab.ok P tt:=by
 intro tt;induction tt with
 | nil=>intro _ t i h;simp at h
 | cons p tt ih =>
  intro h t i hl;obtain ⟨t',i'⟩:=p;simp [tabB] at h;rw [ZV] at hl;split at hl
  ·rename_i e;simp at e hl;subst e;subst hl;have h1:=h.1;unfold tiB at h1;split at h1
   ·rename_i info d hi hd;split at h1
    ·rename_i z hz;simp only [Zh,beq_iff_eq,Nat.beq_eq] at h1;obtain ⟨⟨⟨⟨⟨⟨e1,e2⟩,e3⟩,e4⟩,e5⟩,e6⟩,e9⟩:=h1;obtain ⟨e7,e8⟩:=litsEq_eq e3;exact ⟨⟨info,z,hi,e1,e2,hz,e7⟩,⟨d,hd,kindB_ok e4,by rw [e5];cases d<;>rfl⟩,e8,e6,fun info' z' hi' hz'=>by rw [hi] at hi';simp at hi';subst hi';rw [hz] at hz';simp at hz';subst hz';exact e9⟩
    ·simp at h1
   ·simp at h1
  ·exact ih h.2 t i hl
end Go.Sx
end
section
namespace Go.Sx
open Go
set_option linter.unusedSimpArgs false
set_option linter.unusedVariables false
abbrev w64 (x:Int):Int:=IntKind.i64.wrap x
theorem ntrue {b:Bool} (h:b=false):¬(b=true):=by subst h;simp
def idx {α:Type} (xs:List α) (i:Int):Option α:=if 0≤i then xs[i.toNat]? else none
def sub {α:Type} (xs:List α) (lo hi:Int):Option (List α):=if 0≤lo∧lo≤hi∧hi≤xs.length then some ((xs.drop lo.toNat).take (hi-lo).toNat) else none
def optG {α:Type} [Inhabited α] (g:Bool) (x:Option α):Option α:=if g then x else some default
def need (p:Prop) [Decidable p]:Option Unit:=if p then some () else none
def strAt (s:ByteArray) (k:Int):Option Int:=if 0≤k then s[k.toNat]?.map fun b=>(b.toNat:Int) else none
theorem strAt_of {s:ByteArray} {k c:Int} (h:strAt s k=some c):StrAt s k c:=by
 unfold strAt at h;split at h
 ·rename_i h0;exact ⟨h0,h⟩
 ·cases h
theorem ob {α β:Type} {m:Option α} {f:α→Option β} {b:β} (h:m.bind f=some b):∃a,m=some a∧f a=some b:=Zi.1 h
theorem optG_of {α:Type} [Inhabited α] {g:Bool} {x:Option α} {v:α} (h:optG g x=some v):g=true→x=some v:=by
 intro hg;subst hg;exact h
theorem need_of {p:Prop} [Decidable p] {u:Unit} (h:need p=some u):p:=by
 unfold need at h;split at h
 ·assumption
 ·simp at h
theorem idx_some {α:Type} {xs:List α} {i:Int} {x:α} (h:idx xs i=some x):0≤i∧xs[i.toNat]? = some x:=by
 unfold idx at h;split at h
 ·exact ⟨by assumption,h⟩
 ·simp at h
theorem idx_bounds {α:Type} {xs:List α} {i:Int} {x:α} (h:idx xs i=some x):0≤i∧i<(xs.length:Int):=by
 obtain ⟨h0,h1⟩:=idx_some h;have:=(Zb.1 h1).1;omega
theorem flatMap_drop {α β:Type} (f:α→List β) (e:Nat) (hf:∀x,(f x).length=e):∀(xs:List α) (k:Nat),(xs.flatMap f).drop (k*e)=(xs.drop k).flatMap f:=by
 intro xs;induction xs with
 | nil=>intro k;simp
 | cons x xs ih =>
  intro k;cases k with
  | zero=>simp
  | succ k =>
   rw [Yj,List.drop_succ_cons,←ih k,ZU,Nat.one_mul,Nat.add_comm,←Ys];congr 1;rw [List.drop_left' (hf x)]
theorem flatMap_take {α β:Type} (f:α→List β) (e:Nat) (hf:∀x,(f x).length=e):∀(xs:List α) (k:Nat),(xs.flatMap f).take (k*e)=(xs.take k).flatMap f:=by
 intro xs;induction xs with
 | nil=>intro k;simp
 | cons x xs ih =>
  intro k;cases k with
  | zero=>simp
  | succ k =>
   rw [Yj,List.take_succ_cons,Yj,←ih k,ZU,Nat.one_mul,Nat.add_comm,List.take_append,hf x];rw [ZH (by rw [hf x];omega)];congr 2;omega
theorem flatMap_len {α β:Type} (f:α→List β) (e:Nat) (hf:∀x,(f x).length=e) (xs:List α):(xs.flatMap f).length=xs.length*e:=by
 induction xs with
 | nil=>simp
 | cons x xs ih=>rw [Yj,ZE,ih,hf x,ZF,ZU,Nat.one_mul,Nat.add_comm]
theorem flatMap_at {α β:Type} {f:α→List β} {e:Nat} (hf:∀x,(f x).length=e) {xs:List α} {i:Nat} {x:α} (h:xs[i]? = some x):((xs.flatMap f).drop (i*e)).take e=f x:=by
 rw [flatMap_drop f e hf];have hlt:=(Zb.1 h).1;rw [Yk hlt];have:xs[i]=x:=by have:=(Zb.1 h).2;exact this
 rw [this,Yj,List.take_left' (hf x)]
theorem idxOk {α:Type} {f:α→List D} {e:Nat} (hf:∀x,(f x).length=e) {xs:List α} {i:Int} {x:α} (h:idx xs i=some x):IdxOk (xs.flatMap f) e xs.length i (f x):=by
 obtain ⟨h0,h1⟩:=idx_some h;exact ⟨h0,(idx_bounds h).2,flatMap_at hf h1,hf x⟩
theorem map_drop_take {ds:List D} {off s:Nat} {es:List D} (h:(ds.drop off).take s=es):((ds.map V.d).drop off).take s=es.map .d:=by
 rw [←h,YG,List.map_drop]
theorem loadOk {α:Type} {f:α→List D} {e:Nat} (hf:∀x,(f x).length=e) {xs:List α} {i:Int} {x:α} (h:idx xs i=some x) {j s off:Nat} {es:List D} (ho:off=0+i.toNat*e+j) (hj:((f x).drop j).take s=es) (hl:es.length=s) (hs:j+s≤e) :
 LoadOk ((xs.flatMap f).map .d) off s (es.map .d):=by
 obtain ⟨h0,h1⟩:=idx_some h;refine ⟨?_,by simpa using hl⟩;refine map_drop_take ?_;have hat:=flatMap_at hf h1;rw [ho,Zw,←Ys]
 have:((xs.flatMap f).drop (i.toNat*e))=f x++((xs.flatMap f).drop (i.toNat*e)).drop e:=by
  rw [←hat,Yl]
 rw [this,Yf (by rw [hf x];omega),Ya (by rw [Z8,hf x];omega)];exact hj
theorem putAt_map {α β:Type} (g:α→β) (us:List α):∀(vs:List α) (n:Nat),putAt (vs.map g) n (us.map g)=(putAt vs n us).map g:=by
 induction us with
 | nil=>intro vs n;rfl
 | cons u us ih=>intro vs n;simp only [ZW,putAt];rw [←List.map_set,ih]
theorem storeOk {α:Type} {f:α→List D} {e:Nat} (hf:∀x,(f x).length=e) {xs:List α} {i:Int} {x y:α} (h:idx xs i=some x) {j off:Nat} {us:List D} (ho:off=0+i.toNat*e+j) (hj:putAt (f x) j us=f y) (hs:j+us.length≤e) :
 StoreOk ((xs.flatMap f).map .d) off (us.map .d) (((xs.set i.toNat y).flatMap f).map .d):=by
 obtain ⟨h0,h1⟩:=idx_some h;have hlt:=(Zb.1 h1).1
 have hsp:xs.flatMap f=(xs.take i.toNat).flatMap f++(f x++(xs.drop (i.toNat+1)).flatMap f):=by
  have hx:xs[i.toNat]=x:=(Zb.1 h1).2
  have e1:xs=xs.take i.toNat++(x::xs.drop (i.toNat+1)):=by
   rw [←hx,←Yk hlt,Yl]
  conv=>lhs;rw [e1]
  rw [List.flatMap_append,Yj]
 have hst:(xs.set i.toNat y).flatMap f=(xs.take i.toNat).flatMap f++(f y++(xs.drop (i.toNat+1)).flatMap f):=by
  rw [List.set_eq_take_append_cons_drop,if_pos hlt,List.flatMap_append,Yj]
 have hlen:((xs.take i.toNat).flatMap f).length=i.toNat*e:=by rw [flatMap_len f e hf,ZS,Yz (by omega)]
 refine ⟨?_,?_⟩
 ·rw [Zg,Zg,flatMap_len f e hf,ho];have:i.toNat*e+e≤xs.length*e:=by rw [←Nat.succ_mul];exact ZQ _ hlt
  omega
 ·rw [putAt_map];congr 1
  have hle:off+us.length≤(xs.flatMap f).length:=by
   rw [flatMap_len f e hf,ho];have:i.toNat*e+e≤xs.length*e:=by rw [←Nat.succ_mul];exact ZQ _ hlt
   omega
  rw [putAt_eq _ _ _ hle,hsp,hst,←hj,putAt_eq _ _ _ (by rw [hf x];exact hs),ho,Zw];rw [List.take_append,hlen,ZH (by omega),show i.toNat*e+j-i.toNat*e=j by omega,Ya (by rw [hf x];omega)];rw [List.drop_append,hlen,Yo (by omega),show i.toNat*e+j+us.length-i.toNat*e=j+us.length by omega,Yf (by rw [hf x];omega)];simp [Yi]
theorem sliceOk {α:Type} {f:α→List D} {e:Nat} (hf:∀x,(f x).length=e) {xs ys:List α} {lo hi:Int} (h:sub xs lo hi=some ys):SliceOk (xs.flatMap f) e xs.length lo hi ys.length (ys.flatMap f):=by
 unfold sub at h;split at h
 ·rename_i hc;obtain ⟨h0,h1,h2⟩:=hc;simp at h;subst h;have hl:((xs.drop lo.toNat).take (hi-lo).toNat).length=(hi-lo).toNat:=by rw [ZS,Z8];omega
  refine ⟨h0,h1,h2,hl,?_⟩;rw [hl,flatMap_drop f e hf,flatMap_take f e hf]
 ·simp at h
theorem appendOk {α:Type} {f:α→List D} {e:Nat} (hf:∀x,(f x).length=e) {xs ys:List α} {bytes:Nat} (h:(xs.length+ys.length)*bytes≤140737488355328∧xs.length+ys.length≤9223372036854775807) :
 AppendOk ((xs.flatMap f).map .d) xs.length ys.length (xs++ys).length e bytes (ys.flatMap f) ((xs++ys).flatMap f):=by
 refine ⟨by simp,?_,flatMap_len f e hf ys,h.1,h.2,?_⟩
 ·rw [Zg,flatMap_len f e hf]
 ·rw [List.flatMap_append,YF]
theorem makeOk {α:Type} {f:α→List D} {z:α} {n:Int} {bytes:Nat} {zero:List Value} (hz:f z=zero.map D.v) (h:0≤n∧n*bytes≤140737488355328∧n≤9223372036854775807) :
 MakeOk n n (List.replicate n.toNat z).length bytes zero ((List.replicate n.toNat z).flatMap f):=by
 refine ⟨rfl,by simp,h.1,h.2.1,h.2.2,?_⟩;rw [List.flatMap_def,List.map_replicate,hz]
theorem lentOk {α:Type} {f:α→List D} {e:Nat} (hf:∀x,(f x).length=e) {xs:List α} {H:List O} {id:Nat} (h:H[id]? = some (.data (xs.flatMap f))):argOk H (.sl e id 0 xs.length) (.list false e xs.length (xs.flatMap f)):=by
 refine ⟨rfl,rfl,flatMap_len f e hf xs,(xs.flatMap f).map .d,by simp [rowAt,h,O.row],?_,?_⟩
 ·rw [List.drop_zero,ZH];rw [Zg,flatMap_len f e hf];exact Zx _
 ·rw [Zg,flatMap_len f e hf];omega
def OutQ {ρ σ:Type} (TR:ρ→St) (HR:ρ→List O) (TS:σ→St) (HS:σ→List O) (o:ρ⊕σ):Exit→St→List O→Prop:=fun e T H =>
 match o with
 | .inl r=>e = .ret∧T=TR r∧H=HR r
 | .inr s=>e = .normal∧T=TS s∧H=HS s
theorem OutQ.ret {ρ σ:Type} {TR:ρ→St} {HR:ρ→List O} {TS:σ→St} {HS:σ→List O} {r:ρ}:OutQ TR HR TS HS (.inl r) .ret (TR r) (HR r):=⟨rfl,rfl,rfl⟩
theorem OutQ.norm {ρ σ:Type} {TR:ρ→St} {HR:ρ→List O} {TS:σ→St} {HS:σ→List O} {s:σ}:OutQ TR HR TS HS (.inr s) .normal (TS s) (HS s):=⟨rfl,rfl,rfl⟩
theorem Wk.mk {Q:Exit→St→List O→Prop} {e:Exit} {T T':St} {H H':List O} {fl:Nat} (n:Nat) (ks:List Nat) (hfl:Nat.ble fl n=true) (hT:wkT n ks T=T') (hH:wkH n H=H') (h:Q e T' H'):Wk fl Q e T H:=⟨n,ks,T',H',hfl,hT,hH,h⟩
theorem main_ret {tt:Tab} {rs:List ResultVar} {r:V} {T:St} {H:List O} (h:(resL tt T H rs).map resV=some r):retQ tt rs r .ret T H:=⟨.inl rfl,h⟩
def outK {ρ σ α:Type} (o:ρ⊕σ) (f:ρ→Option α) (g:σ→Option α):Option α :=
 match o with
 | .inl r=>f r
 | .inr s=>g s
theorem outK_inl {ρ σ α:Type} (r:ρ) (f:ρ→Option α) (g:σ→Option α):outK (.inl r) f g=f r:=rfl
theorem outK_inr {ρ σ α:Type} (s:σ) (f:ρ→Option α) (g:σ→Option α):outK (.inr s) f g=g s:=rfl
section loops
variable {P:Program} {rd:Bool} {N fl:Nat} {Q:Exit→St→List O→Prop}
theorem awpN_ind {σ ρ:Type} {body:Code} (F:Nat→σ→Option ρ) (o:ρ) (Tc:σ→St) (Hc:σ→List O) (h0:∀c,F 0 c=none)
 (step:∀n c,F (n+1) c=some o→(∀c',F n c'=some o→awpN P rd N fl body Q n (Tc c') (Hc c'))→awp P rd N fl body (thenQ (awpN P rd N fl body Q n) Q) (Tc c) (Hc c)) :
 ∀n c,F n c=some o→awpN P rd N fl body Q n (Tc c) (Hc c):=by
 intro n;induction n with
 | zero=>intro c h;rw [h0 c] at h;simp at h
 | succ n ih=>intro c h;exact awpN_succ (step n c h fun c' h'=>ih c' h')
theorem awp_cut1 {x:Code} {T:St} {H:List O} (Q1:Exit→St→List O→Prop) (h1:awp P rd N fl x Q1 T H) (h2:∀e T H,Q1 e T H→Q e T H):awp P rd N fl x Q T H:=awp_mono h1 h2
theorem awp_eq {c:Code} {T T':St} {H H':List O} (hT:T=T') (hH:H=H') (h:awp P rd N fl c Q T' H'):awp P rd N fl c Q T H:=by subst hT;subst hH;exact h
end loops
end Go.Sx
end
section
namespace Go.Sx
open Go
set_option linter.unusedSimpArgs false
set_option linter.unusedVariables false
def putPs:List Tmp→List V→St→St
 | p::ps,v::vs,T=>putPs ps vs (putT (some p) v T)
 | _,_,T=>T
def jumpOf:Exit→Option (Option Code)
 | .normal=>some none
 | .ret=>some (some .ret)
 | .exit id=>some (some (.exit id))
 | _=>none
section
variable {P:Program} {tt:Tab} {N fl:Nat} {Γ:Ctx} {bs:Bs} {Z:Nat→Prop} {w:World} {H H':List O} {T T':St}
theorem putPs_rel:∀(ps:List Tmp) (vs:List V) (cs:List Value) (T:St) (tmps:Array Value),(∀p∈ps,p<N)→vs.length=ps.length→cs.length=ps.length →
 (∀(j:Nat) x c,vs[j]? = some x→cs[j]? = some c→RV bs Z w x c)→tmps.size=N→(∀i x,(i,x)∈T→i<N∧RV bs Z w x (tmps.getD i undef)) →
 ((ps.zip cs).foldl (fun (tmps:Array Value) (q:Tmp×Value)=>tmps.setIfInBounds q.1 q.2) tmps).size=N ∧
  ∀i x,(i,x)∈putPs ps vs T→i<N∧RV bs Z w x (((ps.zip cs).foldl (fun (tmps:Array Value) (q:Tmp×Value)=>tmps.setIfInBounds q.1 q.2) tmps).getD i undef):=by
 intro ps;induction ps with
 | nil=>intro vs cs T tmps _ _ _ _ hs ht;exact ⟨hs,by simpa [putPs] using ht⟩
 | cons p ps ih =>
  intro vs cs T tmps hp hv hc hr hs ht;cases vs with
  | nil=>simp at hv
  | cons v vs =>
   cases cs with
   | nil=>simp at hc
   | cons c cs =>
    simp only [List.zip_cons_cons,YE,putPs];refine ih vs cs _ _ (fun q hq=>hp q (Zz _ hq)) (by simpa using hv) (by simpa using hc) (fun j x d hx hd=>hr (j+1) x d (by simpa using hx) (by simpa using hd)) (by simpa using hs) ?_;intro i x hx;have hpN:p<N:=hp p (Yb ..);simp only [putT,ZM,Ze,Ym] at hx;rcases hx with ⟨rfl,rfl⟩|⟨hx,hne⟩
    ·refine ⟨hpN,?_⟩;rw [Zu,Array.getElem?_setIfInBounds_self_of_lt (by rw [hs];exact hpN)];exact hr 0 _ _ rfl rfl
    ·have:=ht i x hx;refine ⟨this.1,?_⟩;simp at hne;rw [Zu,Array.getElem?_setIfInBounds_ne (by omega),←Zu];exact this.2
theorem zip_foldl (ps:Array Tmp) (cs:Array Value) (t:Array Value):(ps.zip cs).foldl (fun tmps (p,a)=>tmps.setIfInBounds p a) t=(ps.toList.zip cs.toList).foldl (fun (tmps:Array Value) (q:Tmp×Value)=>tmps.setIfInBounds q.1 q.2) t:=by
 rw [←Array.foldl_toList];simp
def Ctx.pinAt (Γ:Ctx) (k:Nat) (q:Option (Nat×Nat)):Ctx :=
 { Γ with
  pin:=fun i=>if i=k then some q else Γ.pin i
  n0:=max Γ.n0 (k+1)
  pinlt:=by
   intro i p h;split at h
   ·subst_vars;omega
   ·have:=Γ.pinlt i p h;omega }
theorem InvW.pinAt (hW:InvW Γ H bs Z w) {k:Nat} {q:Option (Nat×Nat)} (hb:bs[k]? = some q) {o:O} (ho:H[k]? = some o) (hd:o.isData=false):InvW (Γ.pinAt k q) H bs Z w :=
 { hW with
  pin:=by
   intro i p h;simp only [Ctx.pinAt] at h;split at h
   ·subst_vars;simp at h;subst h;exact ⟨hb,o,ho,hd⟩
   ·exact hW.pin i p h }
theorem InvW.unpin {k:Nat} {q:Option (Nat×Nat)} (hW:InvW (Γ.pinAt k q) H bs Z w) (hk:∀p,Γ.pin k=some p→p=q):InvW Γ H bs Z w :=
 { hW with
  pin:=by
   intro i p h;refine hW.pin i p ?_;simp only [Ctx.pinAt];split
   ·subst_vars;rw [hk p h]
   ·exact h }
theorem putObj_heap {w:World} {r b:Nat} {o:Obj} (h:b≠r):(w.putObj r o).heap[b]? = w.heap[b]? := World.putObj_heap_other h
theorem InvW.setLoop (hW:InvW Γ H bs Z w) {k b q:Nat} (hb:bs[k]? = some (some (b,q))) {st st':Option (Option Code)} {ps:List Tmp} {asg bd:Code} {M:Nat} {Tl:List (Nat×V)} {r r':Loop}
 (ho:H[k]? = some (.loop st ps asg bd M Tl)) (hh:w.heap[b]? = some (.loop r)) (h1:r'.params=r.params) (h2:r'.assign=r.assign) (h3:r'.body=r.body) (h4:r'.tmps=r.tmps) (h5:LoopOk st' r') :
 InvW Γ (H.set k (.loop st' ps asg bd M Tl)) bs Z (w.putObj b (.loop r')):=by
 have hlt:b<w.heap.size:=(ZP.1 hh).1;obtain ⟨r0,g1,g2,g3,g4,g5,g6,g7⟩:=hW.objs k _ _ ho hb;rw [hh] at g1;simp at g1;subst g1;have hz:∀b',Z b'→(w.putObj b (.loop r')).heap[b']? = w.heap[b']? := fun b' hb'=>putObj_heap (fun e=>by subst e;exact hW.disj k b' q hb hb');refine hW.write hb (fun b' hb'=>putObj_heap hb') World.putObj_size rfl rfl rfl ⟨r',World.putObj_heap_same hlt,h5,h1▸g3,h2▸g4,h3▸g5,h4▸g6,fun i x hx=>?_⟩ (fun _ _ _=>rfl);rw [h4];exact ⟨(g7 i x hx).1,(g7 i x hx).2.mono (fun _ _ h=>h) (fun _ h=>h) hz⟩
theorem InvT.putObj {a:Act} (hW:InvW Γ H bs Z w) (hI:InvT N Γ T bs Z a w) {k b q:Nat} (hb:bs[k]? = some (some (b,q))) (o:Obj):InvT N Γ T bs Z a (w.putObj b o) :=
 hI.mono (fun _ _ h=>h) (fun _ h=>h) (fun b' hb'=>putObj_heap (fun e=>by subst e;exact hW.disj k b' q hb hb'))
theorem YCall.of_awp {k:Nat} {ps:List Tmp} {asg bd:Code} {Tl:List (Nat×V)} {args:List V} {r:V} (hk:H[k]? = some (.loop (some none) ps asg bd N Tl)) (hps:(ps.all fun p=>Nat.blt p N)=true) (hl:args.length=ps.length)
 (h:awp P true N H.length asg (fun e T1 H1=>e = .normal∧H1[k]? = some (.loop (some none) ps asg bd N Tl) ∧
  awp P true N H.length bd (fun e2 T2 H2=>∃j,jumpOf e2=some j∧r=vb j.isNone∧H2[k]? = some (.loop none ps asg bd N Tl)∧H2.set k (.loop (some j) ps asg bd N Tl)=H') T1 (H1.set k (.loop none ps asg bd N Tl))) (putPs ps args Tl) H) :
 YCall P (.yld k::args) H r H':=by
 intro Γ bs Z w cs hW hn0 hcs hargs;have hklt:k<H.length:=(Zb.1 hk).1;obtain ⟨c0,hc0⟩:∃c,cs[0]? = some c:=⟨cs[0]'(by rw [hcs];simp),by simp [hcs]⟩
 have hy:=hargs 0 _ _ rfl hc0;cases hy with|yld _ b q hb =>
 obtain ⟨r0,g1,g2,g3,g4,g5,g6,g7⟩:=hW.objs k _ _ hk hb;have hsz:cs.size=r0.params.size+1:=by rw [hcs,g3];simp [hl]
 refine ⟨b,r0,hc0,g1,hsz,roundIn_of_wpIn (F:=Fence.wide) trivial ?_⟩
 let Γ1:Ctx:={ Γ.pinAt k (some (b,q)) with dfr:=[] }
 have hW1:InvW Γ1 H bs Z w:=(hW.pinAt hb hk rfl).dfr []
 have hback:∀p,Γ.pin k=some p→p=some (b,q):=fun p hp=>by
  have:=(hW.pin k p hp).1;rw [hb] at this;simp at this;exact this.symm
 have hn1:Γ1.n0≤H.length:=by simp only [Γ1,Ctx.pinAt];omega
 have hrest:∀(j:Nat) x c,args[j]? = some x→(cs.extract 1 cs.size).toList[j]? = some c→RV bs Z w x c:=by
  intro j x c hx hc;refine hargs (j+1) x c (by simpa using hx) ?_;have hc':(cs.extract 1 cs.size)[j]? = some c:=by rw [←Array.getElem?_toList];exact hc
  rw [Array.getElem?_extract] at hc';split at hc'
  ·rw [←hc'];congr 1;omega
  ·simp at hc'
 obtain ⟨hr1,hr2⟩:=putPs_rel (N:=N) ps args (cs.extract 1 cs.size).toList Tl r0.tmps (fun p hp=>by simpa using ZB.1 hps p hp) hl (by simp [hsz,g3]) hrest g6 g7
 have hI1:InvT N Γ1 (putPs ps args Tl) bs Z { tmps:=(r0.params.zip (cs.extract 1 cs.size)).foldl (fun tmps (t,a)=>tmps.setIfInBounds t a) r0.tmps,defers:=[] } w:=by
  rw [zip_foldl,g3];exact ⟨hr1,.nil rfl,hr2⟩
 rw [g4,g5];refine wpIn_mono (h (some b) rfl Γ1 _ w hn1 ⟨bs,Z,hW1,hI1⟩) ?_;rintro e a1 w1 ⟨T1,H1,⟨rfl,hk1,hbody⟩,bs1,Z1,hW2,hI2⟩;have hb1:bs1[k]? = some (some (b,q)):=(hW2.pin k (some (b,q)) (by simp [Γ1,Ctx.pinAt])).1;obtain ⟨r1,e1,e2,e3,e4,e5,e6,e7⟩:=hW2.objs k _ _ hk1 hb1;have hready:r1.state = .ready:=e2.2;refine ⟨_,run_beginRound e1 hready,?_⟩;have hW3:=hW2.setLoop hb1 hk1 e1 (r':={ r1 with state := .busy }) rfl rfl rfl rfl (st':=none) rfl;have hI3:=InvT.putObj hW2 hI2 hb1 (.loop { r1 with state := .busy });refine wpIn_mono (hbody (some b) rfl Γ1 a1 _ hn1 ⟨bs1,Z1,hW3,hI3⟩) ?_;rintro e2' a2 w2 ⟨T2,H2,⟨j,hj,hr,hk2,hH'⟩,bs2,Z2,hW4,hI4⟩;have hb2:bs2[k]? = some (some (b,q)):=(hW4.pin k (some (b,q)) (by simp [Γ1,Ctx.pinAt])).1;obtain ⟨r2,f1,f2,f3,f4,f5,f6,f7⟩:=hW4.objs k _ _ hk2 hb2
 have hend:∃v w',(Instr.endRound b j).run P w2 = .ok v w'∧∃c bs' Z',Ending.returned v = .returned c∧InvW Γ H' bs' Z' w'∧RV bs' Z' w' r c:=by
  refine ⟨_,_,run_endRound j f1,_,bs2,Z2,rfl,?_,?_⟩
  ·have:=hW4.setLoop hb2 hk2 f1 (r':={ r2 with state:=if j.isNone then .ready else .done,pending:=j }) rfl rfl rfl rfl (st':=some j) ⟨rfl,rfl⟩;rw [hH'] at this;exact this.undfr.unpin hback
  ·rw [hr];exact RV.mkb _
 cases e2' with
 | normal=>simp only [jumpOf,Zf] at hj;subst hj;exact hend
 | ret=>simp only [jumpOf,Zf] at hj;subst hj;exact hend
 | exit id=>simp only [jumpOf,Zf] at hj;subst hj;exact hend
 | _=>simp [jumpOf] at hj
theorem InvW.dropAt (hW:InvW Γ H bs Z w) (k:Nat) (hk:Γ.n0≤k):InvW Γ ((onlyH (· != k) H).set k (.data [])) (bs.set k none) Z w:=by
 have hkeep:∀(i:Nat) (o:Option (Nat×Nat)),(i != k)=true→bs[i]? = some o→(bs.set k none)[i]? = some o:=fun i o hi hb=>bs_set_keep i o hi hb
 have hset:∀(i:Nat) (p:Nat×Nat),(bs.set k none)[i]? = some (some p)→i≠k∧bs[i]? = some (some p):=by
  intro i p h;rw [Zn] at h;split at h
  ·rename_i e;subst e;split at h<;>simp at h
  ·rename_i e;exact ⟨fun e'=>e e'.symm,h⟩
 constructor
 ·simp [onlyH,hW.lenH]
 ·intro i o p ho hb;rw [Zn] at ho hb;split at ho
  ·rename_i e;subst e;rw [if_pos rfl] at hb;split at ho<;>simp at ho;subst ho;split at hb<;>simp at hb;subst hb;rfl
  ·rename_i e;rw [if_neg e] at hb;simp only [onlyH,Zj,Zc] at ho;obtain ⟨o',ho',rfl⟩:=ho;exact (hW.objs i o' p ho' hb).only _ hkeep
 ·intro i j b k k' hi hj;exact hW.nodup i j b k k' (hset _ _ hi).2 (hset _ _ hj).2
 ·intro i b k hi;exact hW.disj i b k (hset _ _ hi).2
 ·intro i b k hi;exact hW.lt i b k (hset _ _ hi).2
 ·exact hW.zlt
 ·exact hW.z0
 ·intro i b k hi;exact hW.fresh i b k (hset _ _ hi).2
 ·exact hW.zfresh
 ·exact hW.size
 ·exact hW.frame
 ·exact hW.os
 ·exact hW.tape
 ·exact hW.output
 ·intro i p hp;obtain ⟨h1,o,h2,h3⟩:=hW.pin i p hp;have hne:k≠i:=fun e=>by have:=Γ.pinlt i p hp;omega
  exact ⟨by rw [Zn,if_neg hne];exact h1,o.only (· != k),by rw [Zn,if_neg hne];simp only [onlyH,Zj,h2,Zo],by rw [only_isData];exact h3⟩
def evRange (P:Program) (N:Nat) (ps:List Tmp) (asg bd:Code) (ks:List Nat) (ids:List (Nat×Bool)) (r:V) (H':List O) (T:St) (H:List O) (g:Operand):Option (Option Code×St×List O×List Prop) :=
 match evHCall P ids r H' T (H++[O.loop (some none) ps asg bd N (keepT ks T)]) (getV T g) [V.yld H.length] with
 | some (_,T2,H2,pr) =>
  match getV T g,H2[H.length]?,inIds (ids.map (·.1)) 0 H.length with
  | .fn (.func _) _ _,some (.loop (some j) _ _ _ _ _),some _=>some (j,onlyT (· != H.length) T2,(onlyH (· != H.length) H2).set H.length (.data []),pr)
  | _,_,_=>none
 | none=>none
theorem awp_range {Q:Exit→St→List O→Prop} {g:Operand} {ps:Array Tmp} {asg bd:Code} {ks:List Nat} {ids:List (Nat×Bool)} {r:V} {Hc:List O} (j:Option Code) (T':St) (H':List O) (ps':List Prop) (hfl:Nat.ble fl H.length=true)
 (he:evRange P N ps.toList asg bd ks ids r Hc T H g=some (j,T',H',ps')) (hp:AllP ps') (h1:j=none→Q .normal T' H') (h2:∀c,j=some c→awp P false N fl c Q T' H'):awp P false N fl (.rangeFunc g ps asg bd) Q T H:=by
 intro ro hro Γ a w hm hi;have hro':ro=none:=by cases ro<;>simp_all
 subst hro';obtain ⟨bs,Z,hW,hI⟩:=hi;unfold evRange at he;split at he
 ·rename_i r1 T2 H2 pr hev;split at he
  ·rename_i f first cap j' ps2 as2 bd2 N2 Tl2 jj hg hk hin
   simp only [Zf,Ze] at he;obtain ⟨rfl,rfl,rfl,rfl⟩:=he;unfold evHCall at hev;split at hev
   ·rename_i hnd;split at hev
    ·rename_i Hs olds hs hol;rw [hg] at hev;simp only [Zf,Ze] at hev;obtain ⟨rfl,rfl,rfl,rfl⟩:=hev;have hcall:HCall P f ((first++[V.yld H.length]++cap).map (V.re (inIds (ids.map (·.1)) 0))) Hs r Hc:=hp.mem _ (Zq.2 rfl);have hx:=getV_sound hI g;rw [hg] at hx;generalize hfv:a.eval g=fv at hx;cases hx with
     | fn _ _ _ fs cs gg k hl hl' hf hk0 hr hr' =>

      let w1:=w.alloc (.deferred (some []))
      let Z1:Nat→Prop:=fun b=>Z b∨b=w.heap.size
      have hold1:∀b,b<w.heap.size→w1.heap[b]? = w.heap[b]? := fun b hb=>(Grow.alloc Z w _).heap b hb
      have hWa:InvW Γ H bs Z1 w1:=by
       constructor
       ·exact hW.lenH
       ·intro i o q ho hq;exact (hW.objs i o q ho hq).mono (fun _ _ h=>h) (fun _ h => .inl h) (fun b hb=>hold1 b (hW.zlt b hb)) (fun b k e=>hold1 b (hW.lt i b k (e▸hq)))
       ·exact hW.nodup
       ·intro i b k h hz;rcases hz with hz|hz
        ·exact hW.disj i b k h hz
        ·have:=hW.lt i b k h;omega
       ·intro i b k h;have:=hW.lt i b k h;simp [w1];omega
       ·intro b h;rcases h with h|h
        ·have:=hW.zlt b h;simp [w1];omega
        ·simp [w1];omega
       ·exact fun b h => .inl (hW.z0 b h)
       ·exact hW.fresh
       ·intro b h;rcases h with h|h
        ·exact hW.zfresh b h
        ·have:=hW.size;right;left;omega
       ·have:=hW.size;simp [w1];omega
       ·intro b hb hB;rw [hold1 b (by have:=hW.size;omega)];exact hW.frame b hb hB
       ·exact hW.os
       ·exact hW.tape
       ·exact hW.output
       ·exact hW.pin
      obtain ⟨l,d1,d2,d3⟩:=hI.defers
      have hIa:InvT N Γ T bs Z1 { a with defers:=[markOf w.heap.size]++a.defers } w1:=by
       refine ⟨hI.size,⟨w.heap.size::l,by simp [d1],?_,?_⟩,fun i x hx=>⟨(hI.rel i x hx).1,(hI.rel i x hx).2.mono (fun _ _ h=>h) (fun _ h => .inl h) (fun b hb=>hold1 b (hW.zlt b hb))⟩⟩
       ·refine List.nodup_cons.2 ⟨fun hmem=>?_,d2⟩;have:=hW.zlt _ (d3 _ hmem).2.1;omega
       ·intro d hd;rcases ZM.1 hd with rfl|hd
        ·exact ⟨hW.size,.inr rfl,World.alloc_heap_new w _⟩
        ·exact ⟨(d3 d hd).1,.inl (d3 d hd).2.1,(hold1 d (hW.zlt _ (d3 d hd).2.1)).trans (d3 d hd).2.2⟩
      refine wpIn_rangeFunc fun fn _=>?_
      let rec0:Loop:={ state := .ready,pending:=none,fn,tmps:=a.tmps,params:=ps,assign:=asg,body:=bd,defers:=w.heap.size }
      let w2:=w1.alloc (.loop rec0)
      have hsz1:w1.heap.size=w.heap.size+1:=by simp [w1]
      have hold2:∀b,b<w1.heap.size→w2.heap[b]? = w1.heap[b]? := fun b hb=>(Grow.alloc Z w1 _).heap b hb
      have hWb:InvW Γ (H++[.loop (some none) ps.toList asg bd N (keepT ks T)]) (bs++[some (w1.heap.size,0)]) Z1 w2:=by
       refine hWa.push (.loop rec0) _ 0 ⟨rec0,World.alloc_heap_new w1 _,⟨rfl,rfl⟩,rfl,rfl,rfl,hI.size,fun i x hx=>?_⟩;simp only [keepT,Yn,Zc,Ze] at hx;obtain ⟨k',_,v,hlk,rfl,rfl⟩:=hx;have:=hIa.rel k' v (mem_of_lookup hlk);exact ⟨this.1,this.2.mono bs_push (fun _ h=>h) (fun b hb=>hold2 b (hWa.zlt b hb))⟩
      have hIb:InvT N Γ T (bs++[some (w1.heap.size,0)]) Z1 { a with defers:=[markOf w.heap.size]++a.defers } w2 :=
       hIa.mono bs_push (fun _ h=>h) (fun b hb=>hold2 b (hWa.zlt b hb))
      have hlast:(bs++[some (w1.heap.size,0)])[H.length]? = some (some (w1.heap.size,0)):=bs_last hWa _;refine ⟨w.heap.size+1,[markOf w.heap.size],w2,{ target := .fn (.func f) cs,args:=fs ++ #[.func (.yield (w.heap.size+1)) #[] #[]] },w2,f,fs ++ #[.func (.yield (w.heap.size+1)) #[] #[]]++cs,w2,?_,?_,fun _ _=>trivial,?_,fun h=>by simp [wideAt,Fence.wide] at h,?_⟩
      ·exact run_enterLoop_outer fn a.tmps ps asg bd
      ·have hfv':Act.eval a g = .func (.func f) fs cs:=hfv;simp only [resolve,rangeCall,hfv',Deferred.ofValue];simp [Act.eval]
      ·simp [invoke,run_callFunc hcall.ok]
      ·refine (callsIn_wide (n:=0)).2 ?_;refine Calls.mono (HRun.use (K:=fun cs w R=>Calls P f cs w R) Calls.mono hcall.run hWb hnd hs hol (gs:=first++[V.yld H.length]++cap) ?_ rfl ?_) ?_
       ·simp only [Array.size_append,ZE,List.size_toArray,hl,hl'];rfl
       ·intro i y d hy hd;simp only [Yi,ZA] at hy;rw [Ye,Ye] at hd;simp only [Array.size_append] at hd
        have hmono:∀{x:V} {c:Value},RV bs Z w x c→RV (bs++[some (w1.heap.size,0)]) Z1 w2 x c:=fun h =>
         (h.mono (fun _ _ h=>h) (fun _ h => .inl h) (fun b hb=>hold1 b (hW.zlt b hb))).mono bs_push (fun _ h=>h) (fun b hb=>hold2 b (hWa.zlt b hb))
        split at hy
        ·rename_i h3;rw [if_pos (by simp;omega),if_pos (by omega),hf i (by omega)] at hd;simp at hd;subst hd;exact hmono (hr i y hy)
        ·rename_i h3;split at hy
         ·rename_i h4;have h4':i-first.length=0:=by simp at h4;omega
          rw [if_pos (by simp;omega),if_neg (by omega),hl,h4'] at hd;rw [h4'] at hy;simp at hy hd;subst hy;subst hd;rw [←hsz1];exact .yld _ _ 0 hlast
         ·rename_i h4;have h4':1≤i-first.length:=by simp at h4;omega
          rw [if_neg (by simp;omega)] at hd;simp at hy;have e:i-(fs.size+1)=i-first.length-1:=by omega
          simp only [List.size_toArray,ZF,Z5,Zw] at hd;rw [e] at hd;have hlt:=(Zb.1 hy).1;rw [hk0 _ (by omega)] at hd;simp at hd;subst hd;exact hmono (hr' _ _ hy)
       ·rintro e w3 ⟨c,bs2,Z',rfl,q1,q2,q3,q4,q5⟩

        have hstay:stayIds (ids.map (·.1)) Hs H.length=true:=by
         obtain ⟨_,hin'⟩:=inIds_some _ _ _ _ hin;simp only [Yq] at hin';obtain ⟨hsl,hsg⟩:=subH_get hs;rw [Zj,Zc] at hin';obtain ⟨p,hp1,hp2⟩:=hin';obtain ⟨o,ho1,ho2,ho3⟩:=hsg jj p hp1;rw [hp2] at ho1;have hol':(H++[O.loop (some none) ps.toList asg bd N (keepT ks T)])[H.length]? = some (.loop (some none) ps.toList asg bd N (keepT ks T)):=by simp
         rw [hol'] at ho1;simp at ho1;subst ho1;have hsl':(ids.map (·.1))[jj]? = some H.length:=by rw [Zj,hp1];simp [hp2]
         rw [stayIds_get _ Hs jj H.length _ hnd hsl' ho3];rw [fixAt_isData (by rw [re_isData];rfl)];rfl
        have hb3:=q3 H.length _ hstay hlast;obtain ⟨r3,k1,k2,k3,k4,k5,k6,k7⟩:=q1.objs H.length _ _ hk hb3;have hnb:r3.state ≠ .busy:=by rw [k2.2];split<;>simp
        rw [←hsz1];refine ⟨r3.pending,_,run_endLoop k1 hnb,?_⟩;have hpend:r3.pending=j':=k2.1;have hblk:∀b,b≠w1.heap.size→(w3.putObj w1.heap.size (.loop { r3 with state := .exhausted })).heap[b]? = w3.heap[b]? := fun b hb=>World.putObj_heap_other hb
        have hfin:Inv N Γ (onlyT (· != H.length) (onlyT (stayIds (ids.map (·.1)) Hs) T)) ((onlyH (· != H.length) (mergeH (ids.map (·.1)) olds (stayIds (ids.map (·.1)) Hs) 0 (H++[.loop (some none) ps.toList asg bd N (keepT ks T)])++(Hc.drop ids.length).map (O.re (outIds (ids.map (·.1)) (H++[O.loop (some none) ps.toList asg bd N (keepT ks T)]).length)))).set H.length (.data []))
         { a with defers:=[markOf w.heap.size]++a.defers } (w3.putObj w1.heap.size (.loop { r3 with state := .exhausted })):=by
         have hWc:=q1.dropAt H.length (Z3 hm (Zp hfl))
         have hIc:InvT N Γ (onlyT (· != H.length) (onlyT (stayIds (ids.map (·.1)) Hs) T)) (bs2.set H.length none) Z' { a with defers:=[markOf w.heap.size]++a.defers } w3 :=
          (hc_next hIb q3 q4 q5).only _ (fun i o hi hb=>bs_set_keep i o hi hb)
         have hne:∀(i b k:Nat),(bs2.set H.length none)[i]? = some (some (b,k))→b≠w1.heap.size:=by
          intro i b k h e;subst e;rw [Zn] at h;split at h
          ·split at h<;>simp at h
          ·rename_i hne;exact hne (q1.nodup _ _ _ _ _ hb3 h)
         have hzne:∀b,Z' b→b≠w1.heap.size:=fun b hb e=>q1.disj _ _ _ hb3 (e▸hb);refine ⟨bs2.set H.length none,Z',?_,hIc.mono (fun _ _ h=>h) (fun _ h=>h) (fun b hb=>hblk b (hzne b hb))⟩;constructor
         ·exact hWc.lenH
         ·intro i o q ho hq;exact (hWc.objs i o q ho hq).mono (fun _ _ h=>h) (fun _ h=>h) (fun b hb=>hblk b (hzne b hb)) (fun b k e=>hblk b (hne i b k (e▸hq)))
         ·exact hWc.nodup
         ·exact hWc.disj
         ·intro i b k h;rw [World.putObj_size];exact hWc.lt i b k h
         ·intro b h;rw [World.putObj_size];exact hWc.zlt b h
         ·exact hWc.z0
         ·exact hWc.fresh
         ·exact hWc.zfresh
         ·rw [World.putObj_size];exact hWc.size
         ·intro b hb hB;rw [hblk b (by have:=hW.size;omega)];exact hWc.frame b hb hB
         ·exact hWc.os
         ·exact hWc.tape
         ·exact hWc.output
         ·exact hWc.pin
        clear hstay;have hfin':=hfin;generalize (w3.putObj w1.heap.size (.loop { r3 with state := .exhausted }))=w4 at hfin' ⊢;rw [hpend];cases j' with
        | none=>exact ⟨_,_,h1 rfl,hfin'⟩
        | some c=>exact h2 c rfl none rfl Γ _ _ hm hfin'
    ·simp at hev
   ·simp at hev
  ·simp at he
 ·simp at he
end
end Go.Sx
end
section
namespace Go.Sx
open Go
set_option linter.unusedSimpArgs false
set_option linter.unusedVariables false
section
variable {P:Program} {tt:Tab} {rd:Bool} {N fl:Nat} {T T':St} {H H':List O} {ps:List Prop} {Q:Exit→St→List O→Prop}
theorem stepR_scope {b:Frame} {a:Act} {k:List Item} {cs:List Frame} {w:World} {c:Code}:step P (lone (b.atR a (.code (.scope c)::k)) cs w) = .next (lone (b.atR a (.code c :: .inScope c::k)) cs w) :=
 step_lone_go (by simp [stepG,stepG.exec,Frame.atR])
theorem stepR_inScope {b:Frame} {a:Act} {k:List Item} {cs:List Frame} {w:World} {c:Code}:step P (lone (b.atR a (.inScope c::k)) cs w) = .next (lone (b.atR a k) cs w) :=
 step_lone_go (by simp [stepG,stepG.exec,Frame.atR])
def noGotoQ (Q:Exit→Act→World→Prop):Exit→Act→World→Prop
 | .goto _,_,_=>False
 | e,a,w=>Q e a w
theorem wpIn_scope {F:Fence} {n:Nat} {Q:Exit→Act→World→Prop} {a:Act} {w:World} {c:Code} (h:c.wpIn F n P (noGotoQ Q) a w):(Code.scope c).wpIn F n P Q a w:=by
 intro b k cs hro hb hr;have h0:(lone (b.atR a (.code (.scope c)::k)) cs w).fenced P F:=fenced_calm hb hr rfl;obtain ⟨e,a₁,w₁,hq,harr⟩:=h b (.inScope c::k) cs hro hb hr;cases e with
 | normal=>exact ⟨.normal,a₁,w₁,hq,.head h0 stepR_scope (StepsIn.trans harr (.one (fenced_calm hb hr rfl) stepR_inScope))⟩
 | exit id' =>
  have hx:exitTo id' (.inScope c::k)=exitTo id' k:=by simp [exitTo]
  exact ⟨.exit id',a₁,w₁,hq,fun k' hk => .head h0 stepR_scope (harr.1 k' (by rw [hx];exact hk)),
   fun hr' hk=>let ⟨k₁,h1,h2⟩:=harr.2 hr' (by rw [hx];exact hk);⟨k₁,h1,.head h0 stepR_scope h2⟩⟩
 | goto l=>exact hq.elim
 | ret=>exact ⟨_,a₁,w₁,hq,.of_steps (.one h0 stepR_scope) harr⟩
 | panic ch=>exact ⟨_,a₁,w₁,hq,.of_steps (.one h0 stepR_scope) harr⟩
 | outgrown=>exact ⟨_,a₁,w₁,hq,.of_steps (.one h0 stepR_scope) harr⟩
def noGotoA (Q:Exit→St→List O→Prop):Exit→St→List O→Prop
 | .goto _,_,_=>False
 | e,T,H=>Q e T H
theorem awp_scope {c:Code} (h:awp P rd N fl c (noGotoA Q) T H):awp P rd N fl (.scope c) Q T H:=by
 intro ro hro Γ a w hm hi;refine wpIn_scope (wpIn_mono (h ro hro Γ a w hm hi) ?_);rintro e a' w' ⟨T',H',hq,hi'⟩;cases e with
 | goto l=>exact hq.elim
 | _=>exact ⟨T',H',hq,hi'⟩
theorem awp_nilC {c:Code} (k j e:Nat) (xs:List V) (H':List O) (hk:H[k]? = some (.cells xs)) (hj:xs[j]? = some (.d (.v (.slice none 0 0)))) (hH:H.set k (.cells (xs.set j (.sl e H.length 0 0)))++[.data []]=H')
 (h:awp P rd N fl c Q T H'):awp P rd N fl c Q T H:=by
 subst hH;intro ro hro Γ a w hm hi;obtain ⟨bs,Z,hW,hI⟩:=hi;refine h ro hro Γ a w hm ⟨bs++[none],Z,?_,hI.mono bs_push (fun _ h=>h) (fun _ _=>rfl)⟩;have hklt:=(Zb.1 hk).1
 have hcase:∀(i:Nat) (p:Nat×Nat),(bs++[none])[i]? = some (some p)→bs[i]? = some (some p):=by
  intro i p h;rw [ZA] at h;split at h
  ·exact h
  ·rcases Yc (i-bs.length) with h0|h0
   ·rw [h0] at h;simp at h
   ·rw [ZC (by simp;omega)] at h;simp at h
 constructor
 ·simp [hW.lenH]
 ·intro i o q ho hq;rw [ZA] at ho hq;simp only [ZR] at ho;rw [←hW.lenH] at ho;split at ho
  ·rename_i hlt;rw [if_pos hlt] at hq;rw [Zn] at ho;split at ho
   ·rename_i e1;subst e1;simp only [hklt,if_true,Zf] at ho;subst ho;have:=hW.objs _ _ _ hk hq;cases q with
    | none=>simp only [okO] at this;subst this;simp at hj
    | some q =>
     obtain ⟨b,kk⟩:=q;obtain ⟨cs,t,g1,g2,g3,g4⟩:=this;refine ⟨cs,t,g1,g2,by simpa using g3,fun n x hx=>?_⟩;rw [Zn] at hx;split at hx
     ·rename_i e1;subst e1;split at hx<;>simp at hx;subst hx;obtain ⟨c',e1,e2,e3⟩:=g4 j _ hj;refine ⟨c',e1,e2,?_⟩;rw [e3.lit]
      try rw [←hW.lenH]
      exact .sl0 e _ (by simp)
     ·obtain ⟨c',e1,e2,e3⟩:=g4 n x hx;exact ⟨c',e1,e2,e3.mono bs_push (fun _ h=>h) (fun _ _=>rfl)⟩
   ·exact (hW.objs i o q ho hq).mono bs_push (fun _ h=>h) (fun _ _=>rfl) (fun _ _ _=>rfl)
  ·rename_i hlt;rw [if_neg hlt] at hq;rcases Yc (i-bs.length) with h0|h0
   ·rw [h0] at ho hq;simp at ho hq;subst ho;subst hq;rfl
   ·rw [ZC (by simp;omega)] at ho;simp at ho
 ·intro i j b k k' hi hj;exact hW.nodup i j b k k' (hcase _ _ hi) (hcase _ _ hj)
 ·intro i b k hi;exact hW.disj i b k (hcase _ _ hi)
 ·intro i b k hi;exact hW.lt i b k (hcase _ _ hi)
 ·exact hW.zlt
 ·exact hW.z0
 ·intro i b k hi;exact hW.fresh i b k (hcase _ _ hi)
 ·exact hW.zfresh
 ·exact hW.size
 ·exact hW.frame
 ·exact hW.os
 ·exact hW.tape
 ·exact hW.output
 ·intro i p hp;obtain ⟨h1,o,h2,h3⟩:=hW.pin i p hp;refine ⟨bs_push _ _ h1,?_⟩;have hil:i<H.length:=(Zb.1 h2).1;rw [ZT (by simpa using hil),Zn];split
  ·first
    | exact ⟨_,rfl,rfl⟩
    | exact ⟨_,if_pos hklt,rfl⟩
  ·exact ⟨o,h2,h3⟩
def selB (is:List Nat) (bs:Bs):Bs:=is.map fun i=>(bs[i]?).getD none
def selH (is:List Nat) (H:List O):List O:=is.map fun i=>((H[i]?).getD default).re (inIds is 0)
def selT (is ks:List Nat) (T:St):St:=(keepT ks T).map fun q=>(q.1,q.2.re (inIds is 0))
def firstB:List Nat→Nat→Nat→Bool
 | _,_,0=>true
 | i::is,k,n+1=>Nat.beq i k&&firstB is (k+1) n
 | [],_,_+1=>false
theorem firstB_get:∀(is:List Nat) (k n:Nat),firstB is k n=true→∀j,j<n→is[j]? = some (k+j):=by
 intro is;induction is with
 | nil=>intro k n h j hj;cases n with
  | zero=>omega
  | succ n=>simp [firstB] at h
 | cons i is ih =>
  intro k n h j hj;cases n with
  | zero=>omega
  | succ n =>
   simp only [firstB,Zh,Nat.beq_eq] at h;cases j with
   | zero=>simp [h.1]
   | succ j=>rw [List.getElem?_cons_succ,ih (k+1) n h.2 j (by omega)];congr 1;omega
theorem Inv.sel {Γ:Ctx} {a:Act} {w:World} (hi:Inv N Γ T H a w) (is ks:List Nat) (hnd:nodupB is=true) (hlt:(is.all fun i=>Nat.blt i H.length)=true) (hf:firstB is 0 fl=true) (hm:Γ.n0≤fl):Inv N Γ (selT is ks T) (selH is H) a w:=by
 obtain ⟨bs,Z,hW,hI⟩:=hi;have hlt':∀i∈is,i<H.length:=fun i hi=>by simpa using ZB.1 hlt i hi
 have hget:∀(j:Nat) (q:Option (Nat×Nat)),(selB is bs)[j]? = some q→∃i,is[j]? = some i∧bs[i]? = some q:=by
  intro j q h;simp only [selB,Zj,Zc] at h;obtain ⟨i,hi,h⟩:=h;have hib:i<bs.length:=by rw [hW.lenH];exact hlt' i (ZG hi)
  rw [Zd hib] at h;simp at h;exact ⟨i,hi,by rw [Zd hib,h]⟩
 have hre:∀(i j:Nat) (o:Option (Nat×Nat)),inIds is 0 i=some j→bs[i]? = some o→(selB is bs)[j]? = some o:=by
  intro i j o h1 h2;obtain ⟨_,h3⟩:=inIds_some is 0 i j h1;simp only [Yq] at h3;simp only [selB,Zj,h3,Zo,h2,ZL]
 refine ⟨selB is bs,Z,?_,hI.size,hI.defers,fun i x hx=>?_⟩
 ·constructor
  ·simp [selB,selH]
  ·intro j o q ho hq;obtain ⟨i,h1,h2⟩:=hget j q hq;simp only [selH,Zj,h1,Zo,Zf] at ho;have hiH:i<H.length:=hlt' i (ZG h1);rw [Zd hiH] at ho;simp only [ZL] at ho;subst ho;exact (hW.objs i _ q (Zd hiH) h2).re _ hre
  ·intro j j' b k k' h1 h2;obtain ⟨i,g1,g2⟩:=hget _ _ h1;obtain ⟨i',g3,g4⟩:=hget _ _ h2;have:=hW.nodup _ _ _ _ _ g2 g4;subst this;have e1:=inIds_get is 0 i j hnd g1;have e2:=inIds_get is 0 i j' hnd g3;rw [e1] at e2;simp at e2;exact e2
  ·intro j b k h;obtain ⟨i,_,g⟩:=hget _ _ h;exact hW.disj _ _ _ g
  ·intro j b k h;obtain ⟨i,_,g⟩:=hget _ _ h;exact hW.lt _ _ _ g
  ·exact hW.zlt
  ·exact hW.z0
  ·intro j b k h;obtain ⟨i,_,g⟩:=hget _ _ h;exact hW.fresh _ _ _ g
  ·exact hW.zfresh
  ·exact hW.size
  ·exact hW.frame
  ·exact hW.os
  ·exact hW.tape
  ·exact hW.output
  ·intro i p hp;obtain ⟨h1,o,h2,h3⟩:=hW.pin i p hp;have hi0:i<fl:=Yg (Γ.pinlt i p hp) hm;have hii:is[i]? = some i:=by have:=firstB_get is 0 fl hf i hi0;simpa using this
   refine ⟨hre i i p (by simpa using inIds_get is 0 i i hnd hii) h1,o.re (inIds is 0),?_,by rw [re_isData];exact h3⟩;simp only [selH,Zj,hii,Zo,h2,ZL]
 ·simp only [selT,ZX] at hx;obtain ⟨⟨i',y⟩,hy,he⟩:=hx;simp at he;obtain ⟨rfl,rfl⟩:=he;simp only [keepT,Yn,Zc,Ze] at hy;obtain ⟨k,_,v,hl,rfl,rfl⟩:=hy;have:=hI.rel k v (mem_of_lookup hl);exact ⟨this.1,this.2.re _ hre⟩
def selOk (is:List Nat) (n fl:Nat):Bool:=nodupB is&&(is.all fun i=>Nat.blt i n)&&firstB is 0 fl
def Sel (fl:Nat) (Q:Exit→St→List O→Prop):Exit→St→List O→Prop:=fun e T H=>∃is ks T' H',selOk is H.length fl=true∧selT is ks T=T'∧selH is H=H'∧Q e T' H'
theorem Sel.mk {e:Exit} (is ks:List Nat) (hok:selOk is H.length fl=true) (hT:selT is ks T=T') (hH:selH is H=H') (h:Q e T' H'):Sel fl Q e T H:=⟨is,ks,T',H',hok,hT,hH,h⟩
theorem awp_selQ {c:Code} (h:awp P rd N fl c (Sel fl Q) T H):awp P rd N fl c Q T H:=by
 intro ro hro Γ a w hm hi;refine wpIn_mono (h ro hro Γ a w hm hi) ?_;rintro e a' w' ⟨T1,H1,⟨is,ks,T2,H2,hok,rfl,rfl,hq⟩,hi'⟩;simp only [selOk,Zh] at hok;exact ⟨_,_,hq,hi'.sel is ks hok.1.1 hok.1.2 hok.2 hm⟩
end
end Go.Sx
end
section
namespace Go.Sx
open Go
set_option linter.unusedSimpArgs false
set_option linter.unusedVariables false
section
variable {P:Program} {tt:Tab} {N:Nat} {T:St} {H:List O}
theorem selB_re {is:List Nat} {bs:Bs}:∀(i j:Nat) (o:Option (Nat×Nat)),inIds is 0 i=some j→bs[i]? = some o→(selB is bs)[j]? = some o:=by
 intro i j o h1 h2;obtain ⟨_,h3⟩:=inIds_some is 0 i j h1;simp only [Yq] at h3;simp only [selB,Zj,h3,Zo,h2,ZL]
theorem InvW.sel {Γ:Ctx} {bs:Bs} {Z:Nat→Prop} {w:World} {fl:Nat} (hW:InvW Γ H bs Z w) (is:List Nat) (hok:selOk is H.length fl=true) (hm:Γ.n0≤fl):InvW Γ (selH is H) (selB is bs) Z w:=by
 simp only [selOk,Zh] at hok;obtain ⟨⟨hnd,hlt⟩,hf⟩:=hok;have hlt':∀i∈is,i<H.length:=fun i hi=>by simpa using ZB.1 hlt i hi
 have hget:∀(j:Nat) (q:Option (Nat×Nat)),(selB is bs)[j]? = some q→∃i,is[j]? = some i∧bs[i]? = some q:=by
  intro j q h;simp only [selB,Zj,Zc] at h;obtain ⟨i,hi,h⟩:=h;have hib:i<bs.length:=by rw [hW.lenH];exact hlt' i (ZG hi)
  rw [Zd hib] at h;simp at h;exact ⟨i,hi,by rw [Zd hib,h]⟩
 constructor
 ·simp [selB,selH]
 ·intro j o q ho hq;obtain ⟨i,h1,h2⟩:=hget j q hq;simp only [selH,Zj,h1,Zo,Zf] at ho;have hiH:i<H.length:=hlt' i (ZG h1);rw [Zd hiH] at ho;simp only [ZL] at ho;subst ho;exact (hW.objs i _ q (Zd hiH) h2).re _ selB_re
 ·intro j j' b k k' h1 h2;obtain ⟨i,g1,g2⟩:=hget _ _ h1;obtain ⟨i',g3,g4⟩:=hget _ _ h2;have:=hW.nodup _ _ _ _ _ g2 g4;subst this;have e1:=inIds_get is 0 i j hnd g1;have e2:=inIds_get is 0 i j' hnd g3;rw [e1] at e2;simp at e2;exact e2
 ·intro j b k h;obtain ⟨i,_,g⟩:=hget _ _ h;exact hW.disj _ _ _ g
 ·intro j b k h;obtain ⟨i,_,g⟩:=hget _ _ h;exact hW.lt _ _ _ g
 ·exact hW.zlt
 ·exact hW.z0
 ·intro j b k h;obtain ⟨i,_,g⟩:=hget _ _ h;exact hW.fresh _ _ _ g
 ·exact hW.zfresh
 ·exact hW.size
 ·exact hW.frame
 ·exact hW.os
 ·exact hW.tape
 ·exact hW.output
 ·intro i p hp;obtain ⟨h1,o,h2,h3⟩:=hW.pin i p hp;have hi0:i<fl:=Yg (Γ.pinlt i p hp) hm;have hii:is[i]? = some i:=by have:=firstB_get is 0 fl hf i hi0;simpa using this
  refine ⟨selB_re i i p (by simpa using inIds_get is 0 i i hnd hii) h1,o.re (inIds is 0),?_,by rw [re_isData];exact h3⟩;simp only [selH,Zj,hii,Zo,h2,ZL]
theorem calls_of_awp2 (hT:Tab.ok P tt) {f:FuncId} {fn:Func} {c:Code} {cs:Array Value} {Γ:Ctx} {w:World} {R:Ending→World→Prop} (hd:Γ.dfr=[]) (hf:P.funcs[f]? = some fn) (hb:fn.body=some c)
 (h:c.wpIn Fence.wide 0 P (fun e a' w'=>∃T' H' r,((e = .ret∨e = .normal)∧(resL tt T' H' fn.results.toList).map resV=some r∧(∀bs Z w' c,InvW Γ H' bs Z w'→RV bs Z w' r c→R (.returned c) w'))∧Inv N Γ T' H' a' w')
  { tmps:=cs++Array.replicate (fn.ntmps-cs.size) undef,defers:=[] } w):Calls P f cs w R:=by
 refine callsIn_wide.1 (callsIn_of_wp_marks hf hb (F:=Fence.wide) (n:=0) trivial ?_);refine wpIn_mono h ?_;rintro e a' w' ⟨T',H',r,⟨he,hres,hR⟩,bs,Z,hW,hI⟩;obtain ⟨l,hl,hnd,hm⟩:=hI.defers
 have key:LeavesInM Fence.wide 0 P fn a'.tmps R a'.defers .returning w':=by
  rw [hl,hd,Yh];refine collect_all l w' hW hnd hm ?_;intro w2 hW2 hc2;have hI2:InvT N Γ T' bs Z { a' with defers:=[] } w2:=⟨hI.size,.nil hd,fun i x hx=>⟨(hI.rel i x hx).1,(hI.rel i x hx).2.monoC (fun _ _ h=>h) (fun _ h=>h) (fun a _=>hc2 a)⟩⟩
  obtain ⟨c,hc1,hc3⟩:=results_run (P:=P) hT hW2 hI2 hres;exact ⟨c,hc1,hR bs Z w2 c hW2 hc3⟩
 rcases he with rfl|rfl
 ·exact key
 ·exact key
def retS (tt:Tab) (rs:List ResultVar) (fl:Nat) (r:V) (H':List O):Exit→St→List O→Prop:=fun e T H=>(e = .ret∨e = .normal)∧∃is r0,(resL tt T H rs).map resV=some r0∧r0.re (inIds is 0)=r∧selOk is H.length fl=true∧selH is H=H'
theorem main_retS {rs:List ResultVar} {fl:Nat} {r:V} {T:St} {H H':List O} (is:List Nat) (r0:V) (h:(resL tt T H rs).map resV=some r0) (hr:r0.re (inIds is 0)=r) (hok:selOk is H.length fl=true) (hH:selH is H=H'):retS tt rs fl r H' .ret T H:=⟨.inl rfl,is,r0,h,hr,hok,hH⟩
theorem HCall.of_awpS (hT:Tab.ok P tt) {f:FuncId} {fn:Func} {c:Code} {args:List V} {r:V} {H':List O} (hf:P.funcs[f]? = some fn) (hb:fn.body=some c) (hn:(fn.name == "runtime.NumGoroutine")=false) (hN:fn.ntmps=N) {fl:Nat} (hfl:H.length=fl)
 (hlen:args.length≤N) (h:awp P false N fl c (retS tt fn.results.toList fl r H') (entryV args) H):HCall P f args H r H':=by
 subst hfl;refine ⟨⟨fn,hf,hn,by simp [hb]⟩,?_⟩;intro Γ bs Z w cs hW hn0 hl hargs;have hI:=entry_rel (Γ:={ Γ with dfr:=[] }) (n:=fn.ntmps) (N:=N) (bs:=bs) (Z:=Z) (w:=w) rfl hN hlen hl hargs;refine calls_of_awp2 (N:=N) (Γ:={ Γ with dfr:=[] }) hT rfl hf hb (wpIn_mono (h none rfl { Γ with dfr:=[] } _ w hn0 ⟨bs,Z,hW.dfr [],hI⟩) ?_);rintro e a' w' ⟨T',H2,⟨he,is,r0,hres,hr,hok,hH⟩,hi⟩;subst hr;subst hH;exact ⟨T',H2,r0,⟨he,hres,fun bs Z w' c hW hr=>⟨c,selB is bs,Z,rfl,hW.undfr.sel is hok hn0,hr.re _ selB_re⟩⟩,hi⟩
end
end Go.Sx
end
section
namespace Go.Sx
open Go
set_option linter.unusedSimpArgs false
set_option linter.unusedVariables false
section
variable {P:Program} {rd:Bool} {N fl:Nat} {Q:Exit→St→List O→Prop} {T:St} {H:List O}
theorem awp_laxT {c:Code} (k:Nat) (x y:D) (T':St) (hk:T.lookup k=some (.d x)) (hle:LeD x y) (hT':putT (some k) (.d y) T=T') (h:awp P rd N fl c Q T' H):awp P rd N fl c Q T H:=by
 subst hT';intro ro hro Γ a w hm hi;obtain ⟨bs,Z,hW,hI⟩:=hi;refine h ro hro Γ a w hm ⟨bs,Z,hW,?_⟩;have hr:=hI.rel k _ (mem_of_lookup hk);refine ⟨hI.size,hI.defers,fun i v hx=>?_⟩;simp only [putT,ZM,Ze,Ym] at hx;rcases hx with ⟨rfl,rfl⟩|⟨hx,_⟩
 ·refine ⟨hr.1,?_⟩;have hr2:=hr.2;generalize a.tmps.getD i undef=c at hr2 ⊢;cases hr2 with|d _ _ h=>exact .d _ _ (h.le hle)
 ·exact hI.rel i v hx
theorem InvW.setO {Γ:Ctx} {bs:Bs} {Z:Nat→Prop} {w:World} (hW:InvW Γ H bs Z w) {k:Nat} {o o':O} (hk:H[k]? = some o) (h:∀q,okO bs Z w o q→okO bs Z w o' q) (hd:o'.isData=o.isData):InvW Γ (H.set k o') bs Z w:=by
 have hklt:=(Zb.1 hk).1;constructor
 ·simpa using hW.lenH
 ·intro i p q hp hq;rw [Zn] at hp;split at hp
  ·rename_i he;subst he;simp at hp;subst hp;exact h q (hW.objs _ _ q hk hq)
  ·exact hW.objs i p q hp hq
 ·exact hW.nodup
 ·exact hW.disj
 ·exact hW.lt
 ·exact hW.zlt
 ·exact hW.z0
 ·exact hW.fresh
 ·exact hW.zfresh
 ·exact hW.size
 ·exact hW.frame
 ·exact hW.os
 ·exact hW.tape
 ·exact hW.output
 ·intro i p hp;obtain ⟨h1,o2,h2,h3⟩:=hW.pin i p hp;refine ⟨h1,?_⟩;rw [Zn];split
  ·rename_i he;subst he;rw [hk] at h2;simp at h2;subst h2;exact ⟨o',rfl,hd.trans h3⟩
  ·exact ⟨o2,h2,h3⟩
theorem awp_setO {c:Code} (k:Nat) (o o':O) (H':List O) (hk:H[k]? = some o) (hO:∀bs Z w q,okO bs Z w o q→okO bs Z w o' q) (hd:o'.isData=o.isData) (hH:H.set k o'=H') (h:awp P rd N fl c Q T H'):awp P rd N fl c Q T H:=by
 subst hH;intro ro hro Γ a w hm hi;obtain ⟨bs,Z,hW,hI⟩:=hi;exact h ro hro Γ a w hm ⟨bs,Z,hW.setO hk (hO bs Z w) hd,hI⟩
theorem awp_laxC {c:Code} (k j:Nat) (x y:D) (xs:List V) (H':List O) (hk:H[k]? = some (.cells xs)) (hj:xs[j]? = some (.d x)) (hle:LeD x y) (hH:H.set k (.cells (xs.set j (.d y)))=H')
 (h:awp P rd N fl c Q T H'):awp P rd N fl c Q T H:=by
 refine awp_setO k (.cells xs) (.cells (xs.set j (.d y))) H' hk ?_ rfl hH h;intro bs Z w q hq;cases q with
 | none=>have hq':xs=[]:=hq;subst hq';simp at hj
 | some p =>
  obtain ⟨b,n⟩:=p;obtain ⟨cs,t,h1,h2,h3,h4⟩:=hq;refine ⟨cs,t,h1,h2,by simpa using h3,fun i v hv=>?_⟩;rw [Zn] at hv;split at hv
  ·rename_i he;subst he;split at hv
   ·simp at hv;subst hv;obtain ⟨c,g1,g2,g3⟩:=h4 _ _ hj;refine ⟨c,g1,g2,?_⟩;cases g3 with|d _ _ h=>exact .d _ _ (h.le hle)
   ·simp at hv
  ·exact h4 i v hv
theorem awpN_sel {c:Code} {m:Nat} (is ks:List Nat) (T':St) (H':List O) (hok:selOk is H.length fl=true) (hT:selT is ks T=T') (hH:selH is H=H') (h:awpN P rd N fl c Q m T' H'):awpN P rd N fl c Q m T H:=by
 subst hT;subst hH;simp only [selOk,Zh] at hok;exact fun ro hro Γ a w hm hi=>h ro hro Γ a w hm (hi.sel is ks hok.1.1 hok.1.2 hok.2 hm)
end
theorem sub_bounds {α:Type} {xs ys:List α} {lo hi:Int} (h:sub xs lo hi=some ys):0≤lo∧lo≤hi∧hi≤(xs.length:Int):=by
 unfold sub at h;split at h
 ·assumption
 ·simp at h
def mget {κ ν:Type} (eq:κ→κ→Bool) (k:κ):List (κ×ν)→Option ν
 | []=>none
 | q::qs=>if eq k q.1 then some q.2 else mget eq k qs
def mset {κ ν:Type} (eq:κ→κ→Bool) (k:κ) (v:ν):List (κ×ν)→List (κ×ν)
 | []=>[(k,v)]
 | q::qs=>if eq k q.1 then (k,v)::qs else q::mset eq k v qs
section
variable {κ ν:Type} {eq:κ→κ→Bool} {fk:κ→D} {fv:ν→D}
theorem lookD_map (heq:∀a b,eqD (fk a) (fk b)=some (eq a b)) (k:κ):∀(m:List (κ×ν)) (i:Nat),∃r,lookD (fk k) (m.map fun q=>(fk q.1,fv q.2)) i=some r∧r.map (·.2)=(mget eq k m).map fv:=by
 intro m;induction m with
 | nil=>intro i;exact ⟨none,rfl,rfl⟩
 | cons q qs ih =>
  intro i;simp only [ZW,lookD,heq,mget];cases hq:eq k q.1 with
  | true=>exact ⟨some (i,fv q.2),rfl,rfl⟩
  | false=>exact ih (i+1)
theorem lookOk (heq:∀a b,eqD (fk a) (fk b)=some (eq a b)) {z:ν} {zd:D} (hz:zd=fv z) (k:κ) (m:List (κ×ν)):LookOk (m.map fun q=>(fk q.1,fv q.2)) (fk k) zd (fv ((mget eq k m).getD z)) (mget eq k m).isSome:=by
 obtain ⟨r,h1,h2⟩:=lookD_map (fv:=fv) heq k m 0;refine ⟨r,h1,?_,?_⟩
 ·rw [h2];cases mget eq k m<;>rfl
 ·intro hb;cases hm:mget eq k m with
  | none=>exact hz.symm
  | some v=>rw [hm] at hb;simp at hb
theorem setOk (heq:∀a b,eqD (fk a) (fk b)=some (eq a b)) (k:κ) (v:ν):∀(m:List (κ×ν)),setD (fk k) (fv v) (m.map fun q=>(fk q.1,fv q.2))=some ((mset eq k v m).map fun q=>(fk q.1,fv q.2)):=by
 intro m;induction m with
 | nil=>rfl
 | cons q qs ih =>
  simp only [ZW,setD,heq,mset];cases hq:eq k q.1 with
  | true=>rfl
  | false=>simp [ih]
end
def Code.kid:Code→Nat→Code
 | .seq a _,0=>a
 | .seq _ b,_=>b
 | .cond _ a _,0=>a
 | .cond _ _ b,_=>b
 | .block _ a,_=>a
 | .loop a,_=>a
 | .scope a,_=>a
 | .rangeFunc _ _ a _,0=>a
 | .rangeFunc _ _ _ b,_=>b
 | c,_=>c
def Code.at (c:Code):List Nat→Code
 | []=>c
 | i::is=>Code.at (Code.kid c i) is
def bodyAt (f:Func) (is:List Nat):Code:=Code.at (f.body.getD .skip) is
end Go.Sx
namespace Go.Sx
theorem main_retN {tt:Tab} {rs:List ResultVar} {fl:Nat} {r:V} {T:St} {H H':List O} (is:List Nat) (r0:V) (h:(resL tt T H rs).map resV=some r0) (hr:r0.re (inIds is 0)=r) (hok:selOk is H.length fl=true) (hH:selH is H=H'):retS tt rs fl r H' .normal T H:=⟨.inr rfl,is,r0,h,hr,hok,hH⟩
theorem lentOkF {α:Type} {f:α→List D} {e:Nat} (hf:∀x,(f x).length=e) {xs:List α} {H:List O} {id:Nat} (h:H[id]? = some (.fixed (xs.flatMap f))):argOk H (.sl e id 0 xs.length) (.list false e xs.length (xs.flatMap f)):=by
 refine ⟨rfl,rfl,flatMap_len f e hf xs,(xs.flatMap f).map .d,by simp [rowAt,h,O.row],?_,?_⟩
 ·rw [List.drop_zero,ZH];rw [Zg,flatMap_len f e hf];exact Zx _
 ·rw [Zg,flatMap_len f e hf];omega
end Go.Sx
namespace Go.Sx
abbrev di (n:Int):D := .v (.int .i64 n)
abbrev db (b:Bool):D := .v (.bool b)
abbrev dnil:D := .v (.slice none 0 0)
theorem not_of {c:Bool} (h:c=false):(!c)=true:=by rw [h];rfl
end Go.Sx
namespace Go.Sx
section
variable {κ ν:Type} {eq:κ→κ→Bool} {fk:κ→D} {fv:ν→D} {p:κ→Bool}
theorem lookD_mapP (heq:∀a b,p a=true→p b=true→eqD (fk a) (fk b)=some (eq a b)) {k:κ} (hk:p k=true):∀(m:List (κ×ν)) (i:Nat),(m.all fun q=>p q.1)=true→∃r,lookD (fk k) (m.map fun q=>(fk q.1,fv q.2)) i=some r∧r.map (·.2)=(mget eq k m).map fv:=by
 intro m;induction m with
 | nil=>intro i _;exact ⟨none,rfl,rfl⟩
 | cons q qs ih =>
  intro i hm;simp only [List.all_cons,Zh] at hm;simp only [ZW,lookD,heq _ _ hk hm.1,mget];cases hq:eq k q.1 with
  | true=>exact ⟨some (i,fv q.2),rfl,rfl⟩
  | false=>exact ih (i+1) hm.2
theorem lookOkP (heq:∀a b,p a=true→p b=true→eqD (fk a) (fk b)=some (eq a b)) {z:ν} {zd:D} (hz:zd=fv z) {k:κ} {m:List (κ×ν)} (hk:p k=true) (hm:(m.all fun q=>p q.1)=true):LookOk (m.map fun q=>(fk q.1,fv q.2)) (fk k) zd (fv ((mget eq k m).getD z)) (mget eq k m).isSome:=by
 obtain ⟨r,h1,h2⟩:=lookD_mapP (fv:=fv) heq hk m 0 hm;refine ⟨r,h1,?_,?_⟩
 ·rw [h2];cases mget eq k m<;>rfl
 ·intro hb;cases hm:mget eq k m with
  | none=>exact hz.symm
  | some v=>rw [hm] at hb;simp at hb
theorem setOkP (heq:∀a b,p a=true→p b=true→eqD (fk a) (fk b)=some (eq a b)) {k:κ} (v:ν) (hk:p k=true):∀(m:List (κ×ν)),(m.all fun q=>p q.1)=true→setD (fk k) (fv v) (m.map fun q=>(fk q.1,fv q.2))=some ((mset eq k v m).map fun q=>(fk q.1,fv q.2)):=by
 intro m;induction m with
 | nil=>intro _;rfl
 | cons q qs ih =>
  intro hm;simp only [List.all_cons,Zh] at hm;simp only [ZW,setD,heq _ _ hk hm.1,mset];cases hq:eq k q.1 with
  | true=>rfl
  | false=>simp [ih hm.2]
end
section
variable {P:Program} {rd:Bool} {N fl:Nat} {T:St} {H:List O} {Q:Exit→St→List O→Prop}
theorem awp_reV {c:Code} (k:Nat) (x y:V) (T':St) (hk:T.lookup k=some x) (hle:∀(bs:Bs) (Z:Nat→Prop) (w:World) (v:Value),RV bs Z w x v→RV bs Z w y v) (hT':putT (some k) y T=T') (h:awp P rd N fl c Q T' H):awp P rd N fl c Q T H:=by
 subst hT';intro ro hro Γ a w hm hi;obtain ⟨bs,Z,hW,hI⟩:=hi;refine h ro hro Γ a w hm ⟨bs,Z,hW,?_⟩;have hr:=hI.rel k _ (mem_of_lookup hk);refine ⟨hI.size,hI.defers,fun i v hx=>?_⟩;simp only [putT,ZM,Ze,Ym] at hx;rcases hx with ⟨rfl,rfl⟩|⟨hx,_⟩
 ·exact ⟨hr.1,hle _ _ _ _ hr.2⟩
 ·exact hI.rel i v hx
theorem re_rop (cells:List D) (bs:Bs) (Z:Nat→Prop) (w:World) (v:Value) (h:RV bs Z w (.d (.optr true cells)) v):RV bs Z w (.rop cells) v:=by
 cases h with|d _ _ h =>
 cases h with|optr _ ad f hz hc h1 hr=>exact .rop _ ad f hz hc h1 hr
theorem re_fn (g:Fn) (bs:Bs) (Z:Nat→Prop) (w:World) (v:Value) (h:RV bs Z w (.d (.v (.func g #[] #[]))) v):RV bs Z w (.fn g [] []) v:=by
 cases h with|d _ _ h =>
 cases h with|v _ _=>exact .fn g [] [] #[] #[] (fun _=>undef) (fun _=>undef) rfl rfl (fun j hj=>absurd hj (by simp)) (fun j hj=>absurd hj (by simp)) (fun j x h=>by simp at h) (fun j x h=>by simp at h)
end
theorem blockQ_ne {id i:Nat} {Q:Exit→St→List O→Prop} {T:St} {H:List O} (hne:i≠id) (h:Q (.exit i) T H):blockQ id Q (.exit i) T H:=by
 show (if i=id then Q .normal T H else Q (.exit i) T H);rw [if_neg hne];exact h
theorem thenQ_exit {i:Nat} {next:St→List O→Prop} {Q:Exit→St→List O→Prop} {T:St} {H:List O} (h:Q (.exit i) T H):thenQ next Q (.exit i) T H:=h
theorem noGotoA_exit {i:Nat} {Q:Exit→St→List O→Prop} {T:St} {H:List O} (h:Q (.exit i) T H):noGotoA Q (.exit i) T H:=h
end Go.Sx
end
section
namespace Go.Sx
open Go
set_option linter.unusedSimpArgs false
set_option linter.unusedVariables false
section
variable {P:Program} {tt:Tab} {rd:Bool} {N fl:Nat} {T T':St} {H H':List O} {ps:List Prop}
theorem q_eq {Q:Exit→St→List O→Prop} {e:Exit} {T T':St} {H H':List O} (hT:T=T') (hH:H=H') (h:Q e T' H'):Q e T H:=by subst hT;subst hH;exact h
theorem IStep.trans {T1 T2 T3:St} {H1 H2 H3:List O} (h:IStep N fl T1 H1 T2 H2) (h':IStep N fl T2 H2 T3 H3):IStep N fl T1 H1 T3 H3:=fun Γ a w hm hi=>h' Γ a w hm (h Γ a w hm hi)
theorem IStep.freeze (k id:Nat) (ds:List D) (v v':V) (ks:List Nat) {T':St} {H':List O} (hk:T.lookup k=some v) (hid:H[id]? = some (.data ds)) (hv:v.freeze id ds=some (v',ps)) (hp:AllP ps)
 (hT':keepT ks (putT (some k) v' (onlyT (· != id) T))=T') (hH':(onlyH (· != id) H).set id (.data [])=H'):IStep N fl T H T' H':=by
 subst hT';subst hH';intro Γ a w hm hi;obtain ⟨bs,Z,hW,hI⟩:=hi;obtain ⟨Z',hW',hI',hv'⟩:=freeze_core hW hI id ds hid;refine Inv.keep ⟨bs.set id none,Z',hW',?_⟩ ks;have hr:=hI.rel k _ (mem_of_lookup hk);refine ⟨hI'.size,hI'.defers,fun i x hx=>?_⟩;simp only [putT,ZM,Ze,Ym] at hx;rcases hx with ⟨rfl,rfl⟩|⟨hx,_⟩
 ·exact ⟨hr.1,hv' _ _ _ ps hv hp.mem hr.2⟩
 ·exact hI'.rel i x hx
theorem awp_laxR {c:Code} {Q:Exit→St→List O→Prop} (k:Nat) (ds ds':List D) (H':List O) (hk:H[k]? = some (.data ds)) (hle:LeDs ds ds') (hH:H.set k (.data ds')=H') (h:awp P rd N fl c Q T H'):awp P rd N fl c Q T H:=by
 refine awp_setO k (.data ds) (.data ds') H' hk ?_ rfl hH h;intro bs Z w q hq;cases q with
 | none =>
  have hq':ds=[]:=hq;subst hq';have hl:=hle.len;have:ds'=[]:=Yy.1 (by simpa using hl.symm);subst this;rfl
 | some p =>
  obtain ⟨b,n⟩:=p;obtain ⟨cs,t,h1,h2,h3,h4⟩:=hq;refine ⟨cs,t,h1,h2,by rw [←hle.len];exact h3,fun j y hy=>?_⟩;have hj:j<ds.length:=by rw [hle.len];exact (Zb.1 hy).1
  obtain ⟨c',g1,g2,_⟩:=h4 j ds[j] (Zd hj);refine ⟨c',g1,g2,?_⟩
  have hf:=RD.les hle (fun j=>cs.getD j undef) (fun j x hx=>by
   obtain ⟨c2,e1,_,e3⟩:=h4 j x hx
   rw [Zu,e1];exact e3) j y hy
  rw [Zu,g1] at hf;exact hf
end
end Go.Sx
end
section
namespace Go.Sx
open Go Go.ChangeShapes Go.WideShapes Go.ChangeAt Go.RowKit
set_option linter.unusedVariables false
def Told (P:Program) (f:FuncId) (cs:Array Value) (w:World) (v:Value):Prop :=
 Calls P f cs w fun e w'=>e = .returned v∧∃Z Z',Grow Z w Z' w'
theorem Grow.kept {Z Z':Nat→Prop} {w w':World} (h:Grow Z w Z' w') (may:MemPlace→Prop):w.keptBut w' may:=by
 refine ⟨h.os,h.output,fun i hi=>?_⟩;rw [h.heap i hi];cases ho:w.heap[i]? with
 | none=>trivial
 | some o =>
  cases o with
  | cells c t fr=>exact ⟨rfl,rfl,rfl,fun _ _=>rfl⟩
  | map es k=>exact .inr ⟨rfl,rfl⟩
  | _=>rfl
theorem Grow.frozen {Z Z':Nat→Prop} {w w':World} (h:Grow Z w Z' w') (a:Addr) (ha:a.block<w.heap.size):w'.frozen? a=w.frozen? a:=by
 simp only [World.frozen?,h.heap _ ha]
section
variable {H:Type} {enc:TypeId×Value→H} {P:Program}
theorem post_of_grow {f:Func} {s:ChangeSpec} {apart fresh handsOn again:Bool} {W W':World} {args:Array Value} {v:Value} {ds gs:List (DataW H)} {before pa pv:List MemPlace}
 (hW:DataW.Whole enc P f.params.toList s.vars apart W args.toList ds gs before)
 (hres:∀(b:Nat) (sp:Nat→Bool) (hd:Bool),DataW.TrodAll enc P W' b sp hd f.resultTypes.toList (v.resultList f.resultTypes.size) (s.fn H (ds++gs)).results [])
 (hargs:∀sp:Nat→Bool,(∀p∈before,sp p.block=true)→DataW.TrodAll enc P W' 0 sp true f.params.toList args.toList (s.fn H (ds++gs)).args pa)
 (hvars:∀sp:Nat→Bool,(∀p∈before,sp p.block=true)→DataW.TrodVars enc P W' sp s.vars (s.fn H (ds++gs)).vars pv)
 (hps:before=pa++pv) {Z Z':Nat→Prop} (hg:Grow Z W Z' W')
 (hok:∀(j:Nat) (t:TypeId) (r:Value),f.resultTypes[j]? = some t→(v.resultList f.resultTypes.size)[j]? = some r→Value.okWide P W' .any 0 t r) :
 s.post enc P f apart fresh handsOn again W args v W':=by
 have hin:∀p∈before,p.block<W.heap.size:=hW.lt;have hsp:∀p∈before,decide (p.block<W.heap.size)=true:=fun p hp=>decide_eq_true (hin p hp);subst hps;refine ⟨ds,gs,pa++pv,[],pa,pv,hW,hres _ _ _,hargs (fun b=>decide (b<W.heap.size)) hsp,hvars (fun b=>decide (b<W.heap.size)) hsp,?_,fun _=>⟨hok,?_⟩⟩
 ·exact hg.kept _
 ·have hW2:=hW;obtain ⟨_,_,_,_,_,hz,hn⟩:=hW2;refine ⟨_,_,([]++pa)++pv,⟨[]++pa,pv,trodAll_append (hargs _ (fun _ _=>rfl)) (hres _ _ _),hvars _ (fun _ _=>rfl),rfl,?_,fun ha=>?_⟩,?_⟩
  ·intro b off hp;have hp':MemPlace.cell b off∈pa++pv:=by simpa using hp
   rw [hg.frozen _ (hin _ hp')];exact hz b off hp'
  ·simpa using hn ha
  ·intro p hp _;simpa using hp
end
theorem PCall.told {P:Program} {f:FuncId} {r:Value} (h:PCall P f [] (.d (.v r))) (w:World) (hy:Lay (fun b=>b<w.heap.size) w):Told P f #[] w r:=by
 refine (h.run (fun b=>b<w.heap.size) w #[] (fun _ h=>h) hy rfl (fun j x c hx=>by simp at hx)).mono ?_;rintro e w' ⟨c,Z',rfl,hg,hr⟩;exact ⟨by rw [hr.lit],_,_,hg⟩
end Go.Sx
end
section
namespace Go.Sx
open Go
set_option linter.unusedVariables false
section
variable {H:Type} {enc:TypeId×Value→H} {P:Program} {w:World}
def Opens (enc:TypeId×Value→H) (P:Program) (w:World) (t:TypeId) {α:Type} (f:α→List D) (wf:α→Prop):Prop :=
 ∀(fuel:Nat) (cs:List Value) (x:DataW H×List MemPlace),DataW.trod enc P w 0 (fun _=>true) true fuel t cs=some x→∃v:α,wf v∧RDL (fun b=>b<w.heap.size) w (f v) cs
theorem rdl_one {Z:Nat→Prop} {d:D} {c:Value} (h1:one c) (h:RD Z w d c):RDL Z w [d] [c]:=by
 refine ⟨rfl,fun j x c' hx hc=>?_⟩;cases j with
 | zero=>simp at hx hc;subst hx;subst hc;exact ⟨h1,h⟩
 | succ j=>simp at hx
theorem opens_int {t:TypeId} {k:IntKind} (ht:P.underlying t=some (.int k)):Opens enc P w t (fun n:Int=>[D.v (.int k n)]) (fun n=>(Lit.int k n).wf=true):=by
 intro fuel cs x h;cases fuel with
 | zero=>simp [DataW.trod] at h
 | succ fuel =>
  unfold DataW.trod at h;rw [ht] at h;rcases cs with _|⟨c,_|⟨d,cs⟩⟩
  ·simp at h
  ·cases c with
   | int k' n =>
    simp only [Yx] at h;obtain ⟨⟨rfl,h2⟩,_⟩:=h;exact ⟨n,h2,rdl_one rfl (.v _ rfl)⟩
   | _=>simp at h
  ·cases c<;>simp at h
theorem opens_str {t:TypeId} (ht:P.underlying t=some .string):Opens enc P w t (fun b:ByteArray=>[D.v (.string b)]) (fun _=>True):=by
 intro fuel cs x h;cases fuel with
 | zero=>simp [DataW.trod] at h
 | succ fuel =>
  unfold DataW.trod at h;rw [ht] at h;rcases cs with _|⟨c,_|⟨d,cs⟩⟩
  ·simp at h
  ·cases c with
   | string b=>exact ⟨b,trivial,rdl_one rfl (.v _ rfl)⟩
   | _=>simp at h
  ·cases c<;>simp at h
theorem opens_bool {t:TypeId} (ht:P.underlying t=some .bool):Opens enc P w t (fun b:Bool=>[D.v (.bool b)]) (fun _=>True):=by
 intro fuel cs x h;cases fuel with
 | zero=>simp [DataW.trod] at h
 | succ fuel =>
  unfold DataW.trod at h;rw [ht] at h;rcases cs with _|⟨c,_|⟨d,cs⟩⟩
  ·simp at h
  ·cases c with
   | bool b=>exact ⟨b,trivial,rdl_one rfl (.v _ rfl)⟩
   | _=>simp at h
  ·cases c<;>simp at h
end
end Go.Sx
namespace Go.Sx
open Go
theorem mapM_pick {α β:Type} {g:Nat→Option β} {R:Nat→α→Prop}:∀(n s:Nat) (l:List β),(List.range' s n).mapM g=some l→(∀i y,s≤i→i<s+n→g i=some y→∃v,R i v) →
 ∃vs:List α,vs.length=n∧∀(i:Nat) v,vs[i]? = some v→R (s+i) v:=by
 intro n;induction n with
 | zero=>intro s l _ _;exact ⟨[],rfl,fun i v h=>by simp at h⟩
 | succ n ih =>
  intro s l h hg;rw [List.range'_succ,List.mapM_cons] at h;simp only [Option.bind_eq_bind,Zi,Option.pure_def,Zf] at h;obtain ⟨y,h1,ys,h2,_⟩:=h;obtain ⟨v,hv⟩:=hg s y (Zx _) (by omega) h1;obtain ⟨vs,h3,h4⟩:=ih (s+1) ys h2 (fun i y hi hi'=>hg i y (by omega) (by omega));refine ⟨v::vs,by simp [h3],fun i u hu=>?_⟩;cases i with
  | zero=>simp at hu;subst hu;exact hv
  | succ i =>
   simp only [List.getElem?_cons_succ] at hu;have:=h4 i u hu
   rwa [show s+(i+1)=s+1+i by omega]
end Go.Sx
namespace Go.Sx
open Go
theorem mapM_get {β:Type} {g:Nat→Option β}:∀(n s:Nat) (l:List β),(List.range' s n).mapM g=some l→l.length=n∧∀i,i<n→g (s+i)=l[i]? := by
 intro n;induction n with
 | zero=>intro s l h;simp at h;subst h;exact ⟨rfl,fun i h=>by omega⟩
 | succ n ih =>
  intro s l h;rw [List.range'_succ,List.mapM_cons] at h;simp only [Option.bind_eq_bind,Zi,Option.pure_def,Zf] at h;obtain ⟨y,h1,ys,h2,rfl⟩:=h;obtain ⟨h3,h4⟩:=ih (s+1) ys h2;refine ⟨by simp [h3],fun i hi=>?_⟩;cases i with
  | zero=>simpa using h1
  | succ i =>
   rw [List.getElem?_cons_succ,←h4 i (by omega)];congr 1;omega
theorem cell_lt {w:World} {a:Addr} {v:Value} (h:w.cell? a=some v):a.block<w.heap.size:=by
 unfold World.cell? at h;cases ho:w.heap[a.block]? with
 | none=>simp [ho] at h
 | some o=>exact (ZP.1 ho).1
section
variable {H:Type} {enc:TypeId×Value→H} {P:Program} {w:World}
theorem opens_slice {t e sz:Nat} (ht:P.underlying t=some (.slice e)) (hc:P.cellsOf e=sz) (hsz:0<sz) {α:Type} {f:α→List D} {wf:α→Prop} (hf:∀x,(f x).length=sz) (he:Opens enc P w e f wf) :
 Opens enc P w t (fun xs:List α=>[D.list false sz xs.length (xs.flatMap f)]) (fun xs=>(∀x∈xs,wf x)∧xs.length≤maxLen):=by
 intro fuel cs x h;cases fuel with
 | zero=>simp [DataW.trod] at h
 | succ fuel =>
  unfold DataW.trod at h;rw [ht] at h;rcases cs with _|⟨c,_|⟨d,cs⟩⟩
  ·simp at h
  ·cases c with
   | slice a len cap =>
    cases a with
    | none =>
     cases len<;>cases cap<;>simp at h;exact ⟨[],⟨fun x hx=>by simp at hx,Nat.zero_le _⟩,rdl_one rfl (.list0 _ _ _ _ (by simp))⟩
    | some a =>
     simp only [Yx,Zi] at h;obtain ⟨⟨_,h1,h2⟩,elems,h3,_⟩:=h;rw [List.range_eq_range'] at h3
     obtain ⟨vs,g1,g2⟩:=mapM_pick (R:=fun i v=>wf v∧∃rc:List Value,rc.length=sz∧(∀k,k<sz→w.cell? ((a.add (i*sz)).add k)=rc[k]?)∧RDL (fun b=>b<w.heap.size) w (f v) rc) len 0 elems h3 (by
      intro i y _ hi hy;simp only [Zi] at hy;obtain ⟨rc,k1,k2⟩:=hy;unfold World.cells? at k1;rw [hc] at k1;simp only [Nat.zero_le,if_true] at k1;rw [List.range_eq_range'] at k1;obtain ⟨k3,k4⟩:=mapM_get sz 0 rc k1;obtain ⟨v,k5,k6⟩:=he fuel rc y k2
      exact ⟨v,k5,rc,k3,fun k hk=>by simpa using k4 k hk,k6⟩)
     refine ⟨vs,⟨fun v hv=>?_,by omega⟩,rdl_one rfl ?_⟩
     ·obtain ⟨i,hi⟩:=Yd.1 hv;exact (g2 i v hi).1
     ·cases len with
      | zero =>
       have:vs=[]:=Yy.1 g1;subst this;exact .list0 _ _ _ _ (by simp)
      | succ n =>
       rw [show vs.length=n+1 from g1];have hlen:(vs.flatMap f).length=(n+1)*sz:=by rw [flatMap_len f sz hf,g1]
       have key:∀j,j<(n+1)*sz→∃v rc,vs[j / sz]? = some v∧rc.length=sz∧(vs.flatMap f)[j]? = (f v)[j % sz]? ∧ w.cell? (a.add j)=rc[j % sz]? ∧ RDL (fun b=>b<w.heap.size) w (f v) rc:=by
        intro j hj;have hq:j / sz<vs.length:=by rw [g1];exact (Nat.div_lt_iff_lt_mul hsz).2 hj
        have hv:vs[j / sz]? = some vs[j / sz]:=Zd hq;obtain ⟨_,rc,k1,k2,k3⟩:=g2 _ _ hv;have hm:j % sz<sz:=Nat.mod_lt _ hsz;refine ⟨vs[j / sz],rc,hv,k1,?_,?_,k3⟩
        ·rw [←flatMap_at hf hv,Zr,if_pos hm,ZK,Nat.div_add_mod' j sz]
        ·have:=k2 (j % sz) hm;rw [Zw,add_add,Nat.div_add_mod' j sz] at this;exact this
       have cellv:∀j,j<(vs.flatMap f).length→∃c,w.cell? (a.add j)=some c∧one c∧∀x,(vs.flatMap f)[j]? = some x→RD (fun b=>b<w.heap.size) w x c:=by
        intro j hj;obtain ⟨v,rc,k1,k2,k3,k4,k5⟩:=key j (by omega);have hm:j % sz<rc.length:=by rw [k2];exact Nat.mod_lt _ hsz
        have hm2:j % sz<(f v).length:=by rw [hf];exact Nat.mod_lt _ hsz
        have hx:(f v)[j % sz]? = some ((f v)[j % sz]'hm2):=Zd _;have hcc:rc[j % sz]? = some rc[j % sz]:=Zd hm;obtain ⟨o1,o2⟩:=k5.2 _ _ _ hx hcc;exact ⟨_,k4.trans hcc,o1,fun x hx'=>by rw [k3,hx] at hx';simp at hx';subst hx';exact o2⟩
       have hpos:0<(vs.flatMap f).length:=by rw [hlen];exact Nat.mul_pos (Nat.succ_pos _) hsz
       refine .list false sz (n+1) _ a cap (fun j=>(w.cell? (a.add j)).getD undef) (Nat.succ_pos _) hlen ?_ h1 (by simp) ?_ ?_ ?_
       ·obtain ⟨c,c1,_⟩:=cellv 0 hpos;have:=cell_lt c1
        rwa [add_block] at this
       ·intro j hj;obtain ⟨c,c1,_⟩:=cellv j hj;rw [c1];rfl
       ·intro j hj;obtain ⟨c,c1,c2,_⟩:=cellv j hj;rw [c1];exact c2
       ·intro j x hx;obtain ⟨c,c1,_,c3⟩:=cellv j (Zb.1 hx).1;show RD _ w x ((w.cell? (a.add j)).getD undef);rw [c1];exact c3 x hx
   | _=>simp at h
  ·cases c<;>simp at h
end
end Go.Sx
namespace Go.Sx
open Go
section
variable {H:Type} {enc:TypeId×Value→H} {P:Program} {w:World}
theorem rdl_append {Z:Nat→Prop} {ds ds':List D} {cs cs':List Value} (h:RDL Z w ds cs) (h':RDL Z w ds' cs'):RDL Z w (ds++ds') (cs++cs'):=by
 refine ⟨by simp [h.1,h'.1],fun j x c hx hc=>?_⟩;rw [ZA] at hx hc;rw [h.1] at hc;split at hx
 ·rename_i hj;rw [if_pos hj] at hc;exact h.2 j x c hx hc
 ·rename_i hj;rw [if_neg hj] at hc;exact h'.2 _ x c hx hc
end
end Go.Sx
namespace Go.Sx
open Go
section
variable {P:Program} {w:World}
theorem rd_agg {Z:Nat→Prop} {ds:List D} {arr:Array Value} (h:RDL Z w ds arr.toList):RD Z w (.agg ds) (.agg arr):=by
 have hsz:arr.size=ds.length:=by simpa using h.1
 have hget:∀j,j<arr.size→arr[j]? = some (arr.getD j undef):=fun j hj=>by
  rw [Array.getElem?_eq_getElem hj,Zu,Array.getElem?_eq_getElem hj];rfl
 refine .agg ds arr (fun j=>arr.getD j undef) hsz hget (fun j hj=>?_) (fun j x hx=>?_)
 ·have hx:ds[j]? = some ds[j]:=Zd hj;exact (h.2 j _ _ hx (by rw [Array.getElem?_toList];exact hget j (by omega))).1
 ·have hj:j<arr.size:=by rw [hsz];exact (Zb.1 hx).1
  exact (h.2 j x _ hx (by rw [Array.getElem?_toList];exact hget j hj)).2
theorem PCall.toldArgs {f:FuncId} {args:List D} {r:Value} {cs:Array Value} (h:PCall P f args (.d (.v r))) (hl:cs.size=args.length) (ha:∀(j:Nat) x c,args[j]? = some x→cs[j]? = some c→RD (fun b=>b<w.heap.size) w x c) (hy:Lay (fun b=>b<w.heap.size) w):Told P f cs w r:=by
 refine (h.run (fun b=>b<w.heap.size) w cs (fun _ h=>h) hy hl ha).mono ?_;rintro e w' ⟨c,Z',rfl,hg,hr⟩;exact ⟨by rw [hr.lit],_,_,hg⟩
end
end Go.Sx
namespace Go.Sx
open Go
section
variable {H:Type} {enc:TypeId×Value→H} {P:Program} {w:World}
theorem rdl_flat {Z:Nat→Prop} {α:Type} {f:α→List D} {sz:Nat}:∀(vs:List α) (cs:List Value),cs.length=vs.length*sz→(∀(i:Nat) v,vs[i]? = some v→RDL Z w (f v) ((cs.drop (i*sz)).take sz))→RDL Z w (vs.flatMap f) cs:=by
 intro vs;induction vs with
 | nil=>intro cs h _;have:cs=[]:=Yy.1 (by simpa using h);subst this;exact ⟨rfl,fun j x c hx=>by simp at hx⟩
 | cons v vs ih =>
  intro cs h hv;rw [Yj,←Yl sz cs];refine rdl_append ?_ (ih _ ?_ fun i u hu=>?_)
  ·simpa using hv 0 v rfl
  ·rw [Z8,h,ZF,Nat.succ_mul];omega
  ·have:=hv (i+1) u (by simpa using hu)
   rwa [Ys,show sz+i*sz=(i+1)*sz by rw [Nat.succ_mul];omega]
theorem opens_array {t e n sz m:Nat} (ht:P.underlying t=some (.array n e)) (hc:P.cellsOf e=sz) (hn:P.cellsOf t=m) (hm:m=n*sz) {α β:Type} {f:α→List D} {wf:α→Prop} (he:Opens enc P w e f wf)
 (mk:List α→β) (g:β→List D) (wg:β→Prop) (hg:∀vs:List α,vs.length=n→g (mk vs)=vs.flatMap f) (hw:∀vs:List α,vs.length=n→(∀v∈vs,wf v)→wg (mk vs)):Opens enc P w t g wg:=by
 intro fuel cs x h;cases fuel with
 | zero=>simp [DataW.trod] at h
 | succ fuel =>
  unfold DataW.trod at h;rw [ht] at h;simp only [Yx,Zc] at h;obtain ⟨hl,xs,k1,_⟩:=h;rw [hc,List.range_eq_range'] at k1;obtain ⟨vs,g1,g2⟩:=mapM_pick (R:=fun i v=>wf v∧RDL (fun b=>b<w.heap.size) w (f v) ((cs.drop (i*sz)).take sz)) n 0 xs k1 (fun i y _ _ hy=>he fuel _ y hy);refine ⟨mk vs,hw vs g1 fun v hv=>?_,?_⟩
  ·obtain ⟨i,hi⟩:=Yd.1 hv;exact (g2 i v hi).1
  ·rw [hg vs g1];exact rdl_flat vs cs (by rw [hl,hn,hm,g1]) fun i v hv=>by simpa using (g2 i v hv).2
end
end Go.Sx
end
section
namespace Go.Sx
open Go Go.ChangeShapes Go.WideShapes Go.ChangeAt Go.RowKit
set_option linter.unusedVariables false
section
variable {H:Type} {enc:TypeId×Value→H} {P:Program} {w:World}
def ArgOpens (enc:TypeId×Value→H) (P:Program) (w:World) (t:TypeId) {α:Type} (g:α→D) (wf:α→Prop):Prop :=
 ∀(base:Nat) (v:Value) (d:DataW H) (ps:List MemPlace),Value.okWide P w .any base t v→DataW.Trod enc P w 0 (fun _=>true) true t v d ps→∃x,wf x∧RD (fun b=>b<w.heap.size) w (g x) v
theorem arg_one {t:TypeId} {α:Type} {g:α→D} {wf:α→Prop} {u:TypeDesc} (ht:P.underlying t=some u) (hn:(match u with | .struct _=>false | .array _ _=>false|_=>true)=true) (h:Opens enc P w t (fun x=>[g x]) wf):ArgOpens enc P w t g wf:=by
 intro base v d ps hv hd;obtain ⟨fuel,hf⟩:=hd;obtain ⟨x,hx,hr⟩:=h fuel _ _ hf;refine ⟨x,hx,?_⟩
 have hna:∀cs,v ≠ .agg cs:=by
  rintro cs rfl;cases u<;>simp_all [Value.okWide,Cell.okWide,Cell.ok]
 have hc:v.cells = #[v]:=by
  cases v<;>first|rfl|exact absurd rfl (hna _)
 rw [hc] at hr;exact (hr.2 0 _ _ rfl rfl).2
theorem arg_agg {t:TypeId} {α:Type} {f:α→List D} {wf:α→Prop} (ht:(∃fs,P.underlying t=some (.struct fs))∨∃n e,P.underlying t=some (.array n e)) (h:Opens enc P w t f wf):ArgOpens enc P w t (fun x => .agg (f x)) wf:=by
 intro base v d ps hv hd;obtain ⟨fuel,hf⟩:=hd;obtain ⟨x,hx,hr⟩:=h fuel _ _ hf;refine ⟨x,hx,?_⟩
 have:∃cs,v = .agg cs:=by
  rcases ht with ⟨fs,ht⟩|⟨n,e,ht⟩
  ·simp only [Value.okWide,ht] at hv;obtain ⟨cs,rfl,_⟩:=hv;exact ⟨cs,rfl⟩
  ·simp only [Value.okWide,ht] at hv;obtain ⟨cs,rfl,_⟩:=hv;exact ⟨cs,rfl⟩
 obtain ⟨cs,rfl⟩:=this;exact rd_agg hr
def ArgsOpen (enc:TypeId×Value→H) (P:Program) (w:World) (ts:List TypeId) {α:Type} (f:α→List D) (wf:α→Prop):Prop :=
 ∀(base:Nat) (vs:List Value) (ds:List (DataW H)) (ps:List MemPlace),(∀(j:Nat) t v,ts[j]? = some t→vs[j]? = some v→Value.okWide P w .any base t v) →
  DataW.TrodAll enc P w 0 (fun _=>true) true ts vs ds ps→∃x,wf x∧vs.length=(f x).length∧∀(j:Nat) y c,(f x)[j]? = some y→vs[j]? = some c→RD (fun b=>b<w.heap.size) w y c
theorem args_nil:ArgsOpen enc P w [] (fun _:Unit=>[]) (fun _=>True):=by
 intro base vs ds ps _ h;cases vs<;>cases ds<;>simp_all [DataW.TrodAll]
theorem args_cons {t:TypeId} {ts:List TypeId} {α β:Type} {g:α→D} {f:β→List D} {wg:α→Prop} {wf:β→Prop} (h1:ArgOpens enc P w t g wg) (h2:ArgsOpen enc P w ts f wf):ArgsOpen enc P w (t::ts) (fun q:α×β=>g q.1::f q.2) (fun q=>wg q.1∧wf q.2):=by
 intro base vs ds ps hv h;rcases vs with _|⟨v,vs⟩
 ·simp [DataW.TrodAll] at h
 rcases ds with _|⟨d,ds⟩
 ·simp [DataW.TrodAll] at h
 obtain ⟨p,q,k1,k2,_⟩:=h;obtain ⟨x,a1,a2⟩:=h1 base v d p (hv 0 t v rfl rfl) k1;obtain ⟨y,b1,b2,b3⟩:=h2 base vs ds q (fun j t v ht hv'=>hv (j+1) t v (by simpa using ht) (by simpa using hv')) k2;refine ⟨(x,y),⟨a1,b1⟩,by simp [b2],fun j z c hz hc=>?_⟩;cases j with
 | zero=>simp at hz hc;subst hz;subst hc;exact a2
 | succ j=>exact b3 j z c (by simpa using hz) (by simpa using hc)
theorem trodAll_stays (hl:laidOutB P=true) {W W':World} {sp':Nat→Bool}:∀{ts:List TypeId} {vs:List Value} {ds:List (DataW H)} {ps:List MemPlace},(∀t∈ts,(P.readableRec t&&decide (t<P.types.size))=true) →
 DataW.TrodAll enc P W 0 (fun _=>true) true ts vs ds ps→(∀p∈ps,W.sameAt W' p)→(∀p∈ps,sp' p.block=true)→DataW.TrodAll enc P W' 0 sp' true ts vs ds ps:=by
 intro ts;induction ts with
 | nil=>intro vs ds ps _ h _ _;cases vs<;>cases ds<;>simp_all [DataW.TrodAll]
 | cons t ts ih =>
  intro vs ds ps ht h h1 h2;rcases vs with _|⟨v,vs⟩
  ·simp [DataW.TrodAll] at h
  rcases ds with _|⟨d,ds⟩
  ·simp [DataW.TrodAll] at h
  obtain ⟨p,q,k1,k2,rfl⟩:=h;have:=ht t (by simp);simp only [Zh,decide_eq_true_eq] at this;exact ⟨p,q,WideElems.Trod_stays hl this.1 this.2 k1 (fun x hx=>h1 x (by simp [hx])) (fun x hx=>h2 x (by simp [hx])),ih (fun t h=>ht t (by simp [h])) k2 (fun x hx=>h1 x (by simp [hx])) (fun x hx=>h2 x (by simp [hx])),rfl⟩
theorem trodAll_len {W:World}:∀{ts:List TypeId} {vs:List Value} {ds:List (DataW H)} {ps:List MemPlace},DataW.TrodAll enc P W 0 (fun _=>true) true ts vs ds ps→ds.length=ts.length:=by
 intro ts;induction ts with
 | nil=>intro vs ds ps h;cases vs<;>cases ds<;>simp_all [DataW.TrodAll]
 | cons t ts ih =>
  intro vs ds ps h;rcases vs with _|⟨v,vs⟩
  ·simp [DataW.TrodAll] at h
  rcases ds with _|⟨d,ds⟩
  ·simp [DataW.TrodAll] at h
  obtain ⟨p,q,k1,k2,rfl⟩:=h;simp [ih k2]
theorem Grow.below {Z Z':Nat→Prop} {w w':World} (h:Grow Z w Z' w'):Below w.heap.size w w':=⟨h.os,h.tape,h.output,h.size,h.heap⟩
theorem lawPost {fid:FuncId} {f:Func} {s:ChangeSpec} {α:Type} {g:α→List D} {wf:α→Prop} {tb:TypeId} {W:World} {base:Nat} {args:Array Value} {ds gs:List (DataW H)} {before:List MemPlace}
 (hl:laidOutB P=true) (hts:f.params.toList.all (fun t=>P.readableRec t&&decide (t<P.types.size))=true) (hvars:s.vars=[]) (hrt:f.resultTypes = #[tb]) (htb:P.underlying tb=some .bool)
 (hs:∀ds:List (DataW H),ds.length=f.params.size→s.fn H ds={ results:=[.lit (.bool true)],args:=ds })
 (hopen:ArgsOpen enc P W f.params.toList g wf) (hcall:∀x,wf x→PCall P fid (g x) (.d (.v (.bool true))))
 (hval:∀(j:Nat) t v,f.params[j]? = some t→args[j]? = some v→Value.okWide P W .any base t v)
 (hW:DataW.Whole enc P f.params.toList s.vars false W args.toList ds gs before) (hy:Lay (fun b=>b<W.heap.size) W) :
 Calls P fid args W fun e W'=>∃v,e = .returned v∧s.post enc P f false true false false W args v W':=by
 have hW':=hW;obtain ⟨p,q,hA,hV,rfl,hfz,hnd⟩:=hW;rw [hvars] at hV;obtain ⟨rfl,rfl⟩:=trodVars_none hV;obtain ⟨x,hx,hlen,hrd⟩:=hopen base args.toList ds p (fun j t v ht hv=>hval j t v (by simpa using ht) (by simpa using hv)) hA;have hlt:=hW'.lt;have told:=PCall.toldArgs (w:=W) (hcall x hx) (by simpa using hlen) (fun j y c hy hc=>hrd j y c hy (by simpa using hc)) hy;refine Calls.mono told fun e W' ⟨he,Z,Z',hg⟩=>?_;subst he;have hlen2:ds.length=f.params.size:=by simpa using trodAll_len hA
 refine ⟨_,rfl,post_of_grow (pa:=p) (pv:=[]) hW' ?_ ?_ ?_ rfl hg ?_⟩
 ·intro b sp hd;rw [Yh,hs ds hlen2,hrt];exact trodAll_cons_mk (shut_bool htb _) trodAll_mk0
 ·intro sp hsp;rw [Yh,hs ds hlen2];exact trodAll_stays hl (fun t ht=>ZB.1 hts t ht) hA (fun y hy=>hg.below.same (hlt y (by simp [hy]))) (fun y hy=>hsp y (by simp [hy]))
 ·intro sp hsp;rw [Yh,hs ds hlen2,hvars];exact rfl
 ·exact ok_one hrt rfl (okWide_bool_mk htb _)
end
end Go.Sx
namespace Go.Sx
open Go
section
variable {H:Type} {enc:TypeId×Value→H} {P:Program} {w:World}
theorem Opens.mono {t:TypeId} {α:Type} {f:α→List D} {wf wf':α→Prop} (h:Opens enc P w t f wf) (k:∀x,wf x→wf' x):Opens enc P w t f wf':=by
 intro fuel cs x hx;obtain ⟨v,h1,h2⟩:=h fuel cs x hx;exact ⟨v,k v h1,h2⟩
def Fits (k:IntKind) (n:Int):Prop:=k.min≤n∧n≤k.max
theorem opens_fit {t:TypeId} {k:IntKind} (ht:P.underlying t=some (.int k)):Opens enc P w t (fun n:Int=>[D.v (.int k n)]) (Fits k) :=
 (opens_int ht).mono fun n hn=>by simpa [Lit.wf,Fits] using hn
end
theorem Fits.i64 {n:Int} (h:Fits .i64 n) : -9223372036854775808≤n∧n≤9223372036854775807:=h
theorem Fits.u8 {n:Int} (h:Fits .u8 n):0≤n∧n≤255:=h
theorem Fits.u16 {n:Int} (h:Fits .u16 n):0≤n∧n≤65535:=h
theorem Fits.u32 {n:Int} (h:Fits .u32 n):0≤n∧n≤4294967295:=h
end Go.Sx
namespace Go.Sx
open Go
section
variable {H:Type} {enc:TypeId×Value→H} {P:Program} {w:World}
def fieldsOf (P:Program) (t:TypeId):Array Field:=match P.underlying t with|some (.struct fs)=>fs|_ => #[]
def tyoff (P:Program) (t:TypeId):List (TypeId×Nat):=(fieldsOf P t).toList.map fun f=>(f.type,f.offset)
def isStruct (P:Program) (t:TypeId):Bool:=match P.underlying t with|some (.struct _)=>true|_=>false
theorem isStruct_of {t:TypeId} (h:isStruct P t=true):P.underlying t=some (.struct (fieldsOf P t)):=by
 unfold isStruct at h;unfold fieldsOf;cases hu:P.underlying t with
 | none=>rw [hu] at h;cases h
 | some d=>cases d<;>rw [hu] at h<;>first|rfl|cases h
def OpensG (enc:TypeId×Value→H) (P:Program) (w:World) (n:Nat) (fs:List (TypeId×Nat)) (off:Nat) {α:Type} (f:α→List D) (wf:α→Prop):Prop :=
 ∀(fuel:Nat) (cs:List Value) (ys:List (DataW H×List MemPlace)),cs.length=n→fs.mapM (fun fd=>DataW.trod enc P w 0 (fun _=>true) true fuel fd.1 ((cs.drop fd.2).take (P.cellsOf fd.1)))=some ys →
  ∃v:α,wf v∧RDL (fun b=>b<w.heap.size) w (f v) (cs.drop off)
theorem opensG_nil {n:Nat}:OpensG enc P w n [] n (fun _:Unit=>[]) (fun _=>True):=by
 intro fuel cs ys hn _;exact ⟨(),trivial,by simp [RDL,←hn]⟩
theorem opensG_cons {n:Nat} {t:TypeId} {fs:List (TypeId×Nat)} {off sz:Nat} {α β:Type} {f:α→List D} {g:β→List D} {wf:α→Prop} {wg:β→Prop} (hc:P.cellsOf t=sz) (h1:Opens enc P w t f wf)
 (h2:OpensG enc P w n fs (off+sz) g wg):OpensG enc P w n ((t,off)::fs) off (fun q:α×β=>f q.1++g q.2) (fun q=>wf q.1∧wg q.2):=by
 intro fuel cs ys hn h;rw [List.mapM_cons] at h;simp only [Option.bind_eq_bind,Zi,Option.pure_def,Zf] at h;obtain ⟨y,k1,zs,k2,_⟩:=h;rw [hc] at k1;obtain ⟨v,a1,a2⟩:=h1 fuel _ y k1;obtain ⟨u,b1,b2⟩:=h2 fuel cs zs hn k2;refine ⟨(v,u),⟨a1,b1⟩,?_⟩;have:=rdl_append a2 b2
 rwa [←Ys,Yl] at this
theorem opens_structG {t n:Nat} {l:List (TypeId×Nat)} (ht:isStruct P t=true) (hl:tyoff P t=l) (hn:P.cellsOf t=n) {α β:Type} {f:α→List D} {wf:α→Prop} (h1:OpensG enc P w n l 0 f wf) (mk:α→β) (g:β→List D) (wg:β→Prop)
 (hg:∀v,g (mk v)=f v) (hw:∀v,wf v→wg (mk v)):Opens enc P w t g wg:=by
 intro fuel cs x h;cases fuel with
 | zero=>simp [DataW.trod] at h
 | succ fuel =>
  unfold DataW.trod at h;rw [isStruct_of ht] at h;simp only [Yx,Zc] at h;obtain ⟨hl',xs,k1,_⟩:=h;rw [hn] at hl'
  have k2:l.mapM (fun fd=>DataW.trod enc P w 0 (fun _=>true) true fuel fd.1 ((cs.drop fd.2).take (P.cellsOf fd.1)))=some xs:=by
   rw [←hl,tyoff,List.mapM_map];exact k1
  obtain ⟨v,a1,a2⟩:=h1 fuel cs xs hl' k2;exact ⟨mk v,hw v a1,by rw [hg];simpa using a2⟩
theorem arg_struct {t:TypeId} {α:Type} {f:α→List D} {wf:α→Prop} (ht:isStruct P t=true) (h:Opens enc P w t f wf):ArgOpens enc P w t (fun x => .agg (f x)) wf:=arg_agg (.inl ⟨_,isStruct_of ht⟩) h
theorem arg_array {t n e:Nat} {α:Type} {f:α→List D} {wf:α→Prop} (ht:P.underlying t=some (.array n e)) (h:Opens enc P w t f wf):ArgOpens enc P w t (fun x => .agg (f x)) wf:=arg_agg (.inr ⟨_,_,ht⟩) h
end
end Go.Sx
end
section
namespace Go.Sx
open Go
theorem w64_id {n:Int} (h1 : -9223372036854775808≤n) (h2:n≤9223372036854775807):w64 n=n:=by
 show (if (true&&decide (n % (18446744073709551616:Int)≥9223372036854775808))=true then n % (18446744073709551616:Int)-18446744073709551616 else n % (18446744073709551616:Int))=n;by_cases h:n % 18446744073709551616≥9223372036854775808
 ·rw [if_pos (by simp [h])];omega
 ·rw [if_neg (by simp [h])];omega
theorem idx_bang {α:Type} [Inhabited α] {l:List α} {c:Int} (h0:0≤c) (h1:c<l.length):idx l c=some l[c.toNat]! := by
 unfold idx;rw [if_pos h0,Zd (by omega),getElem!_pos l c.toNat (by omega)]
theorem idx_nat {α:Type} [Inhabited α] {l:List α} {i:Nat} (h1:i<l.length):idx l (i:Int)=some l[i]! := by
 rw [idx_bang (by omega) (by omega),Int.toNat_natCast]
theorem idx_mid {α:Type} {pre suf:List α} {x:α} {c:Int} (h:c=pre.length):idx (pre++x::suf) c=some x:=by
 subst h;unfold idx;rw [if_pos (by omega),Int.toNat_natCast,List.getElem?_append_right (Zx _)];simp
theorem need_true {p:Prop} [Decidable p] (h:p):need p=some ():=if_pos h
theorem optG_true {α:Type} [Inhabited α] {x:Option α}:optG true x=x:=rfl
theorem optG_false {α:Type} [Inhabited α] {x:Option α}:optG false x=some default:=rfl
theorem sub_take {α:Type} {l:List α} {c:Int} (h0:0≤c) (h1:c≤l.length):sub l 0 c=some (l.take c.toNat):=by
 unfold sub;rw [if_pos ⟨by omega,h0,h1⟩];simp
def Ok {α:Type} (m:Option α) (Q:α→Prop):Prop:=∃x,m=some x∧Q x
theorem ok_some {α:Type} {x:α} {Q:α→Prop}:Ok (some x) Q↔Q x:=by simp [Ok]
theorem ok_bind {α β:Type} {m:Option α} {f:α→Option β} {Q:β→Prop}:Ok (m.bind f) Q↔Ok m (fun x=>Ok (f x) Q):=by
 cases m<;>simp [Ok]
theorem Ok.mono {α:Type} {m:Option α} {Q R:α→Prop} (h:Ok m Q) (k:∀x,Q x→R x):Ok m R:=by
 obtain ⟨x,h1,h2⟩:=h;exact ⟨x,h1,k x h2⟩
theorem ok_loop {σ β:Type} {f:Nat→σ→Option β} (I:σ→Prop) (m:σ→Nat) (Q:β→Prop)
 (step:∀n s,I s→(∀s',I s'→m s'<m s→Ok (f n s') Q)→Ok (f (n+1) s) Q):∀n s,I s→m s<n→Ok (f n s) Q:=by
 intro n;induction n with
 | zero=>intro s _ h;omega
 | succ n ih=>intro s hs hm;exact step n s hs fun s' h1 h2=>ih s' h1 (by omega)
end Go.Sx
end
section
namespace Go.Sx
open Go
set_option linter.all false
theorem PCall.le {P:Program} {f:FuncId} {xs ys:List D} {r:V} (hl:LeDs xs ys) (h:PCall P f ys r):PCall P f xs r:=by
 refine ⟨h.ok,fun Z w cs hz hy hs hr=>h.run Z w cs hz hy (hs.trans hl.len) ?_⟩;intro j y c hy hc;have hj:j<xs.length:=by rw [hl.len];exact (Zb.1 hy).1
 have q:RD Z w y (cs.getD j undef):=RD.les hl (fun j=>cs.getD j undef) (fun j x hx=>by
  have hj':j<cs.size:=by rw [hs];exact (Zb.1 hx).1
  exact hr j x _ hx (by rw [Zu,Array.getElem?_eq_getElem hj'];rfl)) j y hy
 have:cs.getD j undef=c:=by rw [Zu,hc];rfl
 rw [this] at q;exact q
theorem PCall.leR {P:Program} {f:FuncId} {xs:List D} {x y:D} (hl:LeD x y) (h:PCall P f xs (.d x)):PCall P f xs (.d y) :=
 ⟨h.ok,fun Z w cs hz hy hs hr=>Calls.mono (h.run Z w cs hz hy hs hr) fun e w' ⟨c,Z',h1,h2,h3⟩=>⟨c,Z',h1,h2,by cases h3 with|d _ _ g=>exact .d _ _ (g.le hl)⟩⟩
abbrev di0 (n:Int):D := .v (.int .i64 n)
def cutN (xs:List Int) (k n:Nat):Option (List Int):=if k+n≤xs.length then some ((xs.drop k).take n) else none
theorem cutN_some {xs ys:List Int} {k n:Nat} (h:cutN xs k n=some ys):k+n≤xs.length∧(xs.drop k).take n=ys∧ys.length=n:=by
 unfold cutN at h;split at h
 ·rename_i hc;simp at h;subst h;exact ⟨hc,rfl,by rw [ZS,Z8];omega⟩
 ·simp at h
theorem take_of {α:Type} {xs:List α} {k:Nat} {x:α} (h:xs[k]? = some x):(xs.drop k).take 1=[x]:=by
 have hlt:=(Zb.1 h).1;have hx:=(Zb.1 h).2;rw [Yk hlt,hx];rfl
theorem vecLoad {pre:List V} {p off k:Nat} {xs:List Int} {x:Int} (hp:pre.length=p) (h:xs[k]? = some x) (ho:off=p+k):LoadOk (pre++xs.map vi) off 1 [vi x]:=by
 subst ho;subst hp;refine ⟨?_,rfl⟩;rw [←Ys,List.drop_left',take_of]
 ·simp [h]
 ·rfl
theorem vecLoads {pre:List V} {p off k n:Nat} {xs ys:List Int} (hp:pre.length=p) (h:cutN xs k n=some ys) (ho:off=p+k):LoadOk (pre++xs.map vi) off n (ys.map vi):=by
 subst ho;subst hp;obtain ⟨h1,h2,h3⟩:=cutN_some h;refine ⟨?_,by simpa using h3⟩;rw [←Ys,List.drop_left',←List.map_drop,←YG,h2];rfl
theorem drop_mid {pre ys:List V} {zs:List V} {p k n:Nat} (hp:pre.length=p) (h:k+n≤ys.length):((pre++(ys++zs)).drop (p+k)).take n=(ys.drop k).take n:=by
 subst hp;rw [←Ys,List.drop_left' rfl,Yf (by omega),Ya (by rw [Z8];omega)]
theorem vecLoadT {pre zs:List V} {p off k:Nat} {xs:List Int} {x:Int} (hp:pre.length=p) (h:xs[k]? = some x) (ho:off=p+k):LoadOk (pre++(xs.map vi++zs)) off 1 [vi x]:=by
 have hlt:=(Zb.1 h).1;subst ho;refine ⟨?_,rfl⟩;rw [drop_mid hp (by simp;omega),take_of];simp [h]
theorem take2_of {α:Type} {xs:List α} {k:Nat} {x y:α} (h:xs[k]? = some x) (h2:xs[k+1]? = some y):(xs.drop k).take 2=[x,y]:=by
 have h1:=(Zb.1 h)
 have h3:=(Zb.1 h2)
 obtain ⟨a,rfl⟩:=h1;obtain ⟨b,rfl⟩:=h3;rw [Yk a,Yk b];rfl
theorem vecLoad2T {pre zs:List V} {p off k:Nat} {xs:List Int} {x y:Int} (hp:pre.length=p) (h:xs[k]? = some x) (h2:xs[k+1]? = some y) (ho:off=p+k):LoadOk (pre++(xs.map vi++zs)) off 2 [vi x,vi y]:=by
 have hlt:=(Zb.1 h2).1;subst ho;refine ⟨?_,rfl⟩;rw [drop_mid hp (by simp;omega),take2_of]<;>simp [h,h2]
theorem vecBehind {pre zs vs:List V} {p n j off m:Nat} {xs:List Int} (hp:pre.length=p) (hn:xs.length=n) (ho:off=p+n+j) (hv:(zs.drop j).take m=vs) (hm:vs.length=m:=by rfl):LoadOk (pre++(xs.map vi++zs)) off m vs:=by
 subst ho;subst hp;subst hn;refine ⟨?_,hm⟩;rw [←hv,Nat.add_assoc,←Ys,List.drop_left' rfl,←Ys,List.drop_left' (by simp)]
theorem vecStore {pre:List V} {p off k:Nat} {xs:List Int} {x y:Int} (hp:pre.length=p) (h:xs[k]? = some x) (ho:off=p+k):StoreOk (pre++xs.map vi) off [vi y] (pre++(xs.set k y).map vi):=by
 subst ho;subst hp;have hlt:=(Zb.1 h).1;refine ⟨by simp;omega,?_⟩;simp only [putAt];rw [List.set_append_right _ _ (by omega),List.map_set];congr 2;omega
theorem putAt_mid {pre ys zs us:List V} {p k:Nat} (hp:pre.length=p) (h:k+us.length≤ys.length):putAt (pre++(ys++zs)) (p+k) us=pre++(putAt ys k us++zs):=by
 subst hp;rw [putAt_eq _ _ _ (by simp;omega),putAt_eq _ _ _ h]
 have e1:(pre++(ys++zs)).take (pre.length+k)=pre++ys.take k:=by
  rw [List.take_append,ZH (by omega),show pre.length+k-pre.length=k from by omega,Ya (by omega)]
 have e2:(pre++(ys++zs)).drop (pre.length+k+us.length)=ys.drop (k+us.length)++zs:=by
  rw [Nat.add_assoc,←Ys,List.drop_left' rfl,Yf h]
 rw [e1,e2];simp
theorem putAt_map2 {xs:List Int} {k:Nat} {y z:Int}:putAt (xs.map vi) k [vi y,vi z]=((xs.set k y).set (k+1) z).map vi:=by
 simp [putAt,List.map_set]
theorem vecStore2T {pre zs:List V} {p off k:Nat} {xs:List Int} {x x' y z:Int} (hp:pre.length=p) (h:xs[k]? = some x) (h2:xs[k+1]? = some x') (ho:off=p+k):StoreOk (pre++(xs.map vi++zs)) off [vi y,vi z] (pre++(((xs.set k y).set (k+1) z).map vi++zs)):=by
 have hlt:=(Zb.1 h2).1;subst ho;refine ⟨by simp;omega,?_⟩;rw [putAt_mid hp (by simp;omega),putAt_map2]
theorem vecStores {xs:List V} {n:Nat} {ys:List Int} (hx:xs.length=n) (hy:ys.length=n):StoreOk xs 0 (ys.map vi) (ys.map vi):=by
 refine ⟨by simp;omega,?_⟩;rw [putAt_eq _ _ _ (by simp;omega)];simp [hx,hy]
theorem ropLoads {k n:Nat} {xs ys:List Int} (h:cutN xs k n=some ys):(((xs.map di0).drop k).take n=ys.map di0)∧(ys.map di0).length=n:=by
 obtain ⟨h1,h2,h3⟩:=cutN_some h;exact ⟨by rw [←List.map_drop,←YG,h2],by simpa using h3⟩
theorem nilIs_pos {t:Bool} {e n:Nat} {cells:List D} (h:0<n):NilIs (.list t e n cells) false := .inr (.inl ⟨rfl,t,e,n,cells,h,rfl⟩)
theorem nilIs_nl {e n:Nat} {cells:List D}:NilIs (.nl e n cells) (Nat.beq n 0) := .inr (.inr ⟨e,n,cells,rfl,rfl⟩)
theorem nl_nil {α:Type} {f:α→List D} {xs:List α}:xs.length=0→xs.flatMap f=[]:=fun h=>by
 have:xs=[]:=ZO h;subst this;rfl
theorem map_d (pre:List D) (xs:List Int):pre.map V.d++xs.map vi=(pre++xs.map di0).map V.d:=by simp
theorem len_copy {α:Type} {xs ys:List α}:(ys.take xs.length++xs.drop ys.length).length=xs.length:=by
 rw [ZE,ZS,Z8];omega
def OutX {ρ χ σ:Type} (TR:ρ→St) (HR:ρ→List O) (k:Nat) (TX:χ→St) (HX:χ→List O) (TS:σ→St) (HS:σ→List O) (o:ρ⊕(χ⊕σ)):Exit→St→List O→Prop:=fun e T H =>
 match o with
 | .inl r=>e = .ret∧T=TR r∧H=HR r
 | .inr (.inl x)=>e = .exit k∧T=TX x∧H=HX x
 | .inr (.inr s)=>e = .normal∧T=TS s∧H=HS s
section
variable {ρ χ σ:Type} {TR:ρ→St} {HR:ρ→List O} {k:Nat} {TX:χ→St} {HX:χ→List O} {TS:σ→St} {HS:σ→List O}
theorem OutX.ret {r:ρ}:OutX TR HR k TX HX TS HS (.inl r) .ret (TR r) (HR r):=⟨rfl,rfl,rfl⟩
theorem OutX.ex {x:χ}:OutX TR HR k TX HX TS HS (.inr (.inl x)) (.exit k) (TX x) (HX x):=⟨rfl,rfl,rfl⟩
theorem OutX.norm {s:σ}:OutX TR HR k TX HX TS HS (.inr (.inr s)) .normal (TS s) (HS s):=⟨rfl,rfl,rfl⟩
end
theorem lenb {α:Type} {xs:List α} {n:Nat} (h:xs.length=n):(xs.length==n)=true:=by simpa using h
theorem fm_map {cel:Int→List D} (hc:∀x,cel x=[di0 x]) (xs:List Int):xs.flatMap cel=xs.map di0:=by
 induction xs with
 | nil=>rfl
 | cons x xs ih=>rw [Yj,hc,ih];rfl
theorem ropSlice1 {cel:Int→List D} (hc:∀x,cel x=[di0 x]) {xs ys:List Int} {n:Nat} {l u:Int} (hn:xs.length=n) (h:sub xs l u=some ys):SliceOk (xs.map di0) 1 n l u ys.length (ys.flatMap cel)∧(xs.map di0).length=n*1:=by
 subst hn;have:=sliceOk (f:=cel) (e:=1) (fun x=>by rw [hc];rfl) h;rw [fm_map hc xs] at this;exact ⟨this,by simp⟩
def pairs {α:Type} (mk:Int→Int→α):List Int→List α
 | a::b::l=>mk a b::pairs mk l
 | _=>[]
theorem pairs_len {α:Type} {mk:Int→Int→α}:∀{n:Nat} {l:List Int},l.length=n*2→(pairs mk l).length=n:=by
 intro n;induction n with
 | zero=>intro l h;have:=ZO (by simpa using h);subst this;rfl
 | succ n ih =>
  intro l h
  match l,h with
  | [],h=>simp at h
  | [_],h=>exact absurd h (by simp only [ZF,Z5];omega)
  | a::b::l,h=>simp only [pairs,ZF];rw [ih (by simp at h;omega)]
theorem pairs_cel {α:Type} {mk:Int→Int→α} {cel:α→List D} (hc:∀a b,cel (mk a b)=[di0 a,di0 b]):∀{n:Nat} {l:List Int},l.length=n*2→(pairs mk l).flatMap cel=l.map di0:=by
 intro n;induction n with
 | zero=>intro l h;have:=ZO (by simpa using h);subst this;rfl
 | succ n ih =>
  intro l h
  match l,h with
  | [],h=>simp at h
  | [_],h=>exact absurd h (by simp only [ZF,Z5];omega)
  | a::b::l,h=>simp only [pairs,Yj,hc];rw [ih (by simp at h;omega)];rfl
theorem lentVec2 {α:Type} {mk:Int→Int→α} {cel:α→List D} (hc:∀a b,cel (mk a b)=[di0 a,di0 b]) {H:List O} {id p n:Nat} {pre zs:List V} {xs:List Int} (hr:rowAt H id=some (vecV pre xs zs)) (hp:pre.length=p) (hn:n*2≤xs.length):argOk H (.sl 2 id p n) (.list false 2 (pairs mk (xs.take (n*2))).length ((pairs mk (xs.take (n*2))).flatMap cel)):=by
 have e:vecV pre xs zs=pre++(xs.map vi++zs):=by unfold vecV;cases zs<;>simp [tailV]
 have hl:(xs.take (n*2)).length=n*2:=by rw [ZS];omega
 rw [pairs_cel hc hl,pairs_len hl];refine ⟨rfl,rfl,by simp;omega,_,hr,?_,?_⟩
 ·rw [e];have:=drop_mid (pre:=pre) (ys:=xs.map vi) (zs:=zs) (p:=p) (k:=0) (n:=n*2) hp (by simp;omega);rw [Yp] at this;rw [this,List.drop_zero,←YG,List.map_map];rfl
 ·rw [e];simp;omega
theorem copyVec {cel:Int→List D} (hc:∀x,cel x=[di0 x]) {xs ys:List Int} {n:Nat} (hn:xs.length=n) (h0:0<n):0<(vecV [] xs []).length∧(ys.flatMap cel).length=ys.length*1∧0+n*1≤(vecV [] xs []).length∧putAt (vecV [] xs []) 0 (((ys.flatMap cel).take (min ys.length n*1)).map .d)=(ys.take xs.length++xs.drop ys.length).map vi:=by
 have e:vecV [] xs []=xs.map vi:=by simp [vecV,tailV]
 subst hn;rw [fm_map hc,e];refine ⟨by simpa using h0,by simp,by simp,?_⟩;have hl:(((ys.map di0).take (min ys.length xs.length*1)).map V.d).length=min ys.length xs.length:=by simp
 rw [putAt_eq _ _ _ (by simp only [hl,Zg];omega),hl];simp only [List.take_zero,Zw,Yw,YF,←List.map_drop,←YG,List.map_map];congr 1
 ·by_cases h:ys.length≤xs.length
  ·rw [Yz h,ZH (Zx _),ZH h];rfl
  ·rw [Nat.min_eq_right (by omega)];rfl
 ·by_cases h:ys.length≤xs.length
  ·rw [Yz h]
  ·rw [Nat.min_eq_right (by omega),Yo (Zx _),Yo (by omega)]
theorem loop_on2 {g x:Bool} (h:(cond g (!x) false)=false):cond g x true=true:=by cases g<;>cases x<;>simp_all
end Go.Sx
end
section
namespace Go.Sx
open Go
set_option linter.unusedVariables false
set_option linter.unusedSimpArgs false
abbrev SH:=St×List O
inductive Pf:List Hint→List Prop→Prop
 | nil:Pf [] []
 | n (k:Nat) {hs:List Hint} {ps:List Prop} (h:Pf hs ps):Pf (List.replicate k .no++hs) ps
 | h (x:Hint) {hs:List Hint} {ps:List Prop} (h:Pf hs ps):Pf (x::hs) ps
 | p {q:Prop} (hq:q) {hs:List Hint} {ps:List Prop} (h:Pf hs ps):Pf hs (q::ps)
 | ix {cells:List D} {e n:Nat} {i:Int} {ec:List D} (hq:IdxOk cells e n i ec) {hs:List Hint} {ps:List Prop} (h:Pf hs ps):Pf (.cells ec::hs) (IdxOk cells e n i ec::ps)
 | pc {P:Program} {f:FuncId} {ds:List D} {r:V} (hq:PCall P f ds r) {hs:List Hint} {ps:List Prop} (h:Pf hs ps):Pf (.call ds r::hs) (PCall P f ds r::ps)
 | hc {P:Program} {f:FuncId} {args:List V} {Hs:List O} {r:V} {H':List O} (ids:List (Nat×Bool)) (hq:HCall P f args Hs r H') {hs:List Hint} {ps:List Prop} (h:Pf hs ps):Pf (.hcall ids r H'::hs) (HCall P f args Hs r H'::ps)
 | i (b:Bool) {hs:List Hint} {ps:List Prop} (h:Pf hs ps):Pf hs ((b=true→b=true)::ps)
 | ig {b:Bool} {cells:List D} {e n:Nat} {i:Int} {ec:List D} (hq:b=true→IdxOk cells e n i ec) {hs:List Hint} {ps:List Prop} (h:Pf hs ps):Pf (.cells ec::hs) ((b=true→IdxOk cells e n i ec)::ps)
 | ap {xs:List V} {n m k e b:Nat} {ys zs:List D} (hq:AppendOk xs n m k e b ys zs) {hs:List Hint} {ps:List Prop} (h:Pf hs ps):Pf (.list k zs::hs) (AppendOk xs n m k e b ys zs::ps)
 | al {xs:List V} {n m k e b:Nat} {ys zs:List D} (hq:AppendOk xs n m k e b ys zs) {hs:List Hint} {ps:List Prop} (h:Pf hs ps):Pf (.listT k zs::hs) (AppendOk xs n m k e b ys zs::ps)
 | yc {P:Program} {args:List V} {Hs:List O} {r:V} {H':List O} (ids:List (Nat×Bool)) (hq:YCall P args Hs r H') {hs:List Hint} {ps:List Prop} (h:Pf hs ps):Pf (.hcall ids r H'::hs) (YCall P args Hs r H'::ps)
theorem all_cons {q:Prop} {ps:List Prop} (hq:q) (h:∀p∈ps,p):∀p∈q::ps,p:=by
 intro p hp;rcases ZM.1 hp with rfl|hp
 ·exact hq
 ·exact h p hp
theorem Pf.all {hs:List Hint} {ps:List Prop} (h:Pf hs ps):∀p∈ps,p:=by
 induction h with
 | nil=>intro p hp;simp at hp
 | n k h ih=>exact ih
 | h x h ih=>exact ih
 | p hq h ih=>exact all_cons hq ih
 | ix hq h ih=>exact all_cons hq ih
 | i b h ih=>exact all_cons id ih
 | ig hq h ih=>exact all_cons hq ih
 | ap hq h ih=>exact all_cons hq ih
 | al hq h ih=>exact all_cons hq ih
 | pc hq h ih=>exact all_cons hq ih
 | hc ids hq h ih=>exact all_cons hq ih
 | yc ids hq h ih=>exact all_cons hq ih
def pr (T:St) (H:List O):SH:=(T,H)
def stR (P:Program) (tt:Tab) (N:Nat) (ops:Array Oper) (hs:List Hint) (S:SH):SH :=
 match evOps P tt N (ops.toList.map (·.dst)) ops.toList hs S.1 S.2 with
 | some q=>(q.1,q.2.1)
 | none=>S
def psR (P:Program) (tt:Tab) (N:Nat) (ops:Array Oper) (hs:List Hint) (S:SH):Option (List Prop):=(evOps P tt N (ops.toList.map (·.dst)) ops.toList hs S.1 S.2).map (·.2.2)
def midA (ops:Array Oper) (T:St):List Nat:=ops.toList.filterMap (·.dst)++(T.map (·.1)).filter fun k => !(ops.toList.any fun o=>o.dst==some k)
def stA (P:Program) (tt:Tab) (N m:Nat) (ops:Array Oper) (hs:List Hint) (S:SH):SH :=
 match evAny P tt N m ops hs (midA ops S.1) (midA ops S.1) S.1 S.2 with
 | some q=>(q.1,q.2.1)
 | none=>S
def psA (P:Program) (tt:Tab) (N m:Nat) (ops:Array Oper) (hs:List Hint) (S:SH):Option (List Prop):=(evAny P tt N m ops hs (midA ops S.1) (midA ops S.1) S.1 S.2).map (·.2.2)
def resN (n:Nat) (S:SH):SH:=(S.1,S.2++List.replicate n (.data []))
section
variable {P:Program} {tt:Tab} {rd:Bool} {N fl:Nat} {S:SH} {ps:List Prop} {hs:List Hint} {Q:Exit→St→List O→Prop} {y c:Code} {id m:Nat} {ops:Array Oper}
theorem awp_pr {T:St} {H:List O} (h:awp P rd N fl c Q (pr T H).1 (pr T H).2):awp P rd N fl c Q T H:=h
theorem allP_pf (h:Pf hs ps):AllP ps:=AllP.of_mem h.all
theorem awp_tight (hT:Tab.ok P tt) (pf:Pf hs ps) (he:psR P tt N ops hs S=some ps) (hq:Q .normal (stR P tt N ops hs S).1 (stR P tt N ops hs S).2):awp P rd N fl (.region id ops false) Q S.1 S.2:=by
 unfold psR at he;rw [Zc] at he;obtain ⟨⟨T',H',qs⟩,h1,rfl⟩:=he;simp only [stR,h1] at hq;intro ro hro Γ a w hm hi;refine wpIn_region ?_;rw [List.range_eq_range',show ops.size=ops.toList.length by simp];exact evOps_sound hT ops.toList 0 hs S.1 S.2 T' H' qs rfl h1 pf.all a w hi fun a' w' hi'=>⟨_,_,hq,hi'⟩
theorem awp_tightA (hT:Tab.ok P tt) (hm:P.follows .mixedOrders=true) (pf:Pf hs ps) (he:psA P tt N m ops hs S=some ps) (hq:Q .normal (stA P tt N m ops hs S).1 (stA P tt N m ops hs S).2):awp P rd N fl (.region id ops true) Q S.1 S.2:=by
 unfold psA at he;rw [Zc] at he;obtain ⟨⟨T',H',qs⟩,h1,rfl⟩:=he;simp only [stA,h1] at hq;exact awp_any hT hm h1 (allP_pf pf) hq
theorem awp_resN (n:Nat) (h:awp P rd N fl c Q (resN n S).1 (resN n S).2):awp P rd N fl c Q S.1 S.2:=by
 induction n generalizing S with
 | zero=>simpa [resN] using h
 | succ n ih =>
  have hr:resN (n+1) S=resN n (S.1,S.2++[.data []]):=by simp [resN,List.replicate_succ]
  rw [hr] at h;exact awp_res (S.2++[.data []]) rfl (ih (S:=(S.1,S.2++[.data []])) h)
theorem awp_trunc {T:St} {H:List O} (k m:Nat) (ds ds':List D) (H':List O) (hk:H[k]? = some (.data ds)) (hd:ds.take m=ds') (hH:H.set k (.data ds')=H') (h:awp P rd N fl c Q T H'):awp P rd N fl c Q T H:=by
 subst hd;subst hH;intro ro hro Γ a w hm hi;obtain ⟨bs,Z,hW,hI⟩:=hi;have hlt:=(Zb.1 hk).1;refine h ro hro Γ a w hm ⟨bs,Z,?_,hI⟩;constructor
 ·simp [hW.lenH]
 ·intro i o q ho hq;rw [Zn] at ho;split at ho
  ·rename_i e;subst e;simp [hlt] at ho;subst ho;have h0:=hW.objs _ _ _ hk hq;cases q with
   | none=>obtain rfl:ds=[]:=h0;simp [okO]
   | some p =>
    obtain ⟨b,n⟩:=p;obtain ⟨cs,t,h1,h2,h3,h4⟩:=h0;refine ⟨cs,t,h1,h2,Z3 (by simp;omega) h3,fun j x hj=>h4 j x ?_⟩;rw [Zr] at hj;split at hj
    ·exact hj
    ·simp at hj
  ·exact hW.objs i o q ho hq
 ·exact hW.nodup
 ·exact hW.disj
 ·exact hW.lt
 ·exact hW.zlt
 ·exact hW.z0
 ·exact hW.fresh
 ·exact hW.zfresh
 ·exact hW.size
 ·exact hW.frame
 ·exact hW.os
 ·exact hW.tape
 ·exact hW.output
 ·intro i p hp;obtain ⟨h1,o,h2,h3⟩:=hW.pin i p hp;refine ⟨h1,o,?_,h3⟩;rw [Zn,if_neg]
  ·exact h2
  ·rintro rfl;rw [hk] at h2;simp at h2;subst h2;simp [O.isData] at h3
theorem trunc_take {α:Type} {f:α→List D} {e:Nat} (hf:∀x,(f x).length=e) {xs ys:List α} {u:Int} (h:sub xs 0 u=some ys):(xs.flatMap f).take (ys.length*e)=ys.flatMap f∧(u-0).toNat=ys.length:=by
 obtain ⟨h1,h2,h3,h4,h5⟩:=sliceOk hf h;simp only [Int.toNat_zero,Nat.zero_mul,List.drop_zero] at h5;exact ⟨h5.symm,by omega⟩
theorem awp_lp {σ ρ:Type} {body:Code} (n:Nat) (ks:List Nat) (L:Nat→σ→Option ρ) (o:ρ) (TH:σ→SH) (fuel:Nat) (c0:σ) (h:L fuel c0=some o) (h0:∀c,L 0 c=none)
 (step:∀n c,L (n+1) c=some o→(∀c',L n c'=some o→awpN P rd N fl body (blockQ id Q) n (TH c').1 (TH c').2)→awp P rd N fl body (thenQ (awpN P rd N fl body (blockQ id Q) n) (blockQ id Q)) (TH c).1 (TH c).2)
 (hfl:Nat.ble fl n=true) (hT:wkT n ks S.1=(TH c0).1) (hH:wkH n S.2=(TH c0).2):awp P rd N fl (.block id (.loop body)) Q S.1 S.2 :=
 awp_wk n ks hfl _ _ hT hH (awp_block (awp_loop (n:=fuel) (awpN_ind L o (fun c=>(TH c).1) (fun c=>(TH c).2) h0 step fuel c0 h)))
end
section
variable {tt:Tab} {T:St} {H:List O}
theorem rl_cell {L rs:List ResultVar} {b t:Nat} {v:V} {vs:List V} (hL:L = .cell b t::rs) (h:cellV tt T H b t=some v) (hr:resL tt T H rs=some vs):resL tt T H L=some (v::vs):=by subst hL;simp [resL,h,hr]
theorem rl_tmp {L rs:List ResultVar} {t:Nat} {v:V} {vs:List V} (hL:L = .tmp t::rs) (h:T.lookup t=some v) (hr:resL tt T H rs=some vs):resL tt T H L=some (v::vs):=by subst hL;simp [resL,h,hr]
theorem rl_nil {L:List ResultVar} (hL:L=[]):resL tt T H L=some []:=by subst hL;rfl
theorem rl_ok {L:List ResultVar} {r:V} {vs:List V} (h:resL tt T H L=some vs) (hv:resV vs=r):(resL tt T H L).map resV=some r:=by rw [h,Zo,hv]
theorem takeN_all {α:Type}:∀{xs:List α} {n:Nat},xs.length=n→takeN n xs=some xs
 | [],_,h=>by subst h;rfl
 | x::xs,n+1,h=>by simp [takeN,takeN_all (xs:=xs) (n:=n) (by simpa using h)]
theorem allD_vi:∀ns:List Int,allD (ns.map vi)=some (ns.map di0)
 | []=>rfl
 | n::ns=>by simp [allD,allD_vi ns]
theorem cellVec {b t id n:Nat} {ns:List Int} (h1:T.lookup b=some (.ref id 0)) (h2:((tt.lookup t).map fun i=>(i.size,i.agg))=some (n,true)) (h3:rowAt H id=some (vecV [] ns [])) (h4:ns.length=n):cellV tt T H b t=some (.d (.agg (ns.map di0))):=by
 rw [Zc] at h2;obtain ⟨i,hi,h2⟩:=h2;simp only [Ze] at h2;obtain ⟨h5,h6⟩:=h2;have h7:vecV [] ns []=ns.map vi:=rfl;simp only [cellV,h1,hi,h3,h7,List.drop_zero,h5,takeN_all (xs:=ns.map vi) (n:=n) (by simpa using h4),Za,mkVal,h6,if_true,mkAgg,allD_vi]
end
theorem eqL_vec:∀{a b:List Int},a.length=b.length→eqL (a.map di0) (b.map di0)=some (a==b)
 | [],[],_=>rfl
 | x::a,y::b,h=>by
  have ih:=eqL_vec (a:=a) (b:=b) (by simpa using h);have hs:scal (di0 x) (di0 y)=some (x==y):=by simp [scal,IntKind.same]
  cases a with
  | nil =>
   cases b with
   | nil=>simp [eqL,hs]
   | cons=>simp at h
  | cons u us =>
   simp only [ZW] at ih ⊢;simp only [eqL,hs];rw [ih];simp
theorem eqD_vec {a b:List Int} {n:Nat} (ha:a.length=n) (hb:b.length=n):eqD (.agg (a.map di0)) (.agg (b.map di0))=some (a==b):=eqL_vec (ha.trans hb.symm)
theorem all_di0 {P:Program} {e:TypeId} {k:IntKind} (he:P.underlying e=some (.int k)) (a:List Int):(a.map di0).all (scalB P e)=true:=by
 rw [ZB];intro x hx;obtain ⟨n,_,rfl⟩:=ZX.1 hx;simp [scalB,he]
theorem eqB_vec {P:Program} {t e:TypeId} {n:Nat} {k:IntKind} (h0:(!P.stoodInHeld t && !P.eqGuardType P.depth t)=true) (hu:P.underlying t=some (.array n e)) (he:P.underlying e=some (.int k)) (hc:P.cellsOf e=1) (hi:(P.info? e).isSome=true) {a:List Int} (ha:a.length=n) :
 eqB P t (.agg (a.map di0))=true:=by
 simp only [eqB,h0,hu,he,hc,hi,Zg,ha,all_di0 he,ZD,Bool.true_and];simp
theorem eqB_vec2 {P:Program} {t e s:TypeId} {n m l:Nat} {k:IntKind} (h0:(!P.stoodInHeld t && !P.eqGuardType P.depth t)=true) (hu:P.underlying t=some (.array n e)) (hu2:P.underlying e=some (.array m s)) (he:P.underlying s=some (.int k)) (hc:P.cellsOf e=m) (hc2:P.cellsOf s=1) (hi:(P.info? e).isSome=true) (hi2:(P.info? s).isSome=true) (hl:n*m=l) {a:List Int} (ha:a.length=l) :
 eqB2 P t (.agg (a.map di0))=true:=by
 unfold eqB2;rw [ZY,ZY];right;left;simp only [nestB,h0,hu,hu2,hc,hc2,hi,hi2,Zg,ha,all_di0 he,ZD,Bool.true_and,hl];simp
end Go.Sx
end
section
namespace Go.Sx
open Go
set_option linter.unusedVariables false
section
variable {P:Program} {tt:Tab} {N fl:Nat} {T T':St} {H H':List O} {K:Exit→St→List O→Prop}
def Idle (P:Program) (d:Deferred):Prop:=∃(fv:Fn) (cap:Array Value) (f:FuncId) (args:Array Value),d.target = .fn fv cap∧(∀w,(invoke d.target d.args).run P w = .ok (.enter f args) w) ∧
 ∀(w:World) (R:Ending→FrameMode→World→Prop),(∀c,R (.returned c) .returning w)→CallsDIn Fence.wide 0 P f args .returning w R
inductive Quiet (P:Program) (Γ:Ctx) (Z:Nat→Prop) (w:World):List Nat→List Deferred→Prop
 | nil:Quiet P Γ Z w [] []
 | idle {l:List Nat} {ds:List Deferred} (d:Deferred) (h:Idle P d) (q:Quiet P Γ Z w l ds):Quiet P Γ Z w l (d::ds)
 | mark {l:List Nat} {ds:List Deferred} (b:Nat) (h1:Γ.w0.heap.size≤b) (h2:Z b) (h3:w.heap[b]? = some (.deferred (some []))) (h4:b ∉ l) (q:Quiet P Γ Z w l ds):Quiet P Γ Z w (b::l) (markOf b::ds)
theorem Quiet.mono {Γ Γ':Ctx} {Z Z':Nat→Prop} {w w':World} {l:List Nat} {ds:List Deferred} (q:Quiet P Γ Z w l ds) (h:∀b∈l,Γ.w0.heap.size≤b→Z b→w.heap[b]? = some (.deferred (some []))→Γ'.w0.heap.size≤b∧Z' b∧w'.heap[b]? = some (.deferred (some []))):Quiet P Γ' Z' w' l ds:=by
 induction q with
 | nil=>exact .nil
 | idle d hd _ ih=>exact .idle d hd (ih h)
 | mark b h1 h2 h3 h4 _ ih =>
  obtain ⟨g1,g2,g3⟩:=h b (Yb ..) h1 h2 h3;exact .mark b g1 g2 g3 h4 (ih fun b' hb'=>h b' (Zz _ hb'))
theorem Quiet.marks {Γ:Ctx} {Z:Nat→Prop} {w:World} {l0:List Nat} {ds:List Deferred} (q:Quiet P Γ Z w l0 ds):∀l:List Nat,(l++l0).Nodup→(∀d∈l,Γ.w0.heap.size≤d∧Z d∧w.heap[d]? = some (.deferred (some [])))→Quiet P Γ Z w (l++l0) (l.map markOf++ds):=by
 intro l;induction l with
 | nil=>intro _ _;exact q
 | cons b l ih =>
  intro hn h;obtain ⟨h1,h2,h3⟩:=h b (Yb ..);rw [List.cons_append,List.nodup_cons] at hn;exact .mark b h1 h2 h3 hn.1 (ih hn.2 fun d hd=>h d (Zz _ hd))
theorem Quiet.all {bs:Bs} {Z:Nat→Prop} {Γ:Ctx} {fn:Func} {tmps:Array Value} {R:Ending→World→Prop} {ds:List Deferred}:∀(l:List Nat) (w:World),Quiet P Γ Z w l ds→InvW Γ H bs Z w →
 (∀w',InvW Γ H bs Z w'→(∀a:Addr,w'.cell? a=w.cell? a)→∃v,(results fn tmps).run P w' = .ok v w'∧R (.returned v) w')→LeavesInM Fence.wide 0 P fn tmps R ds .returning w:=by
 induction ds with
 | nil=>intro l w q hW h;exact h w hW (fun _=>rfl)
 | cons d ds ih =>
  intro l w q hW h;cases q with
  | idle _ hd q =>
   obtain ⟨fv,cap,f,args,h1,h2,h3⟩:=hd;refine ⟨by simp,.inr ⟨by simp [Fence.wide],fv,cap,f,args,h1,h2 w,fun g _=>trivial,?_⟩⟩;exact h3 w _ fun c=>ih _ w q hW h
  | mark b h1 h2 h3 h4 q =>
   obtain ⟨hc,hW'⟩:=hW.collect h1 h2 h3;refine ⟨by simp,.inl ⟨b,_,rfl,run_takeDeferred h3,ih _ _ (q.mono fun b' hb' g1 g2 g3=>⟨g1,g2,(World.putObj_heap_other ?_).trans g3⟩) hW' (fun w' hw' hc'=>h w' hw' (fun a=>(hc' a).trans (hc a)))⟩⟩;rintro rfl;exact h4 hb'
def awpF (P:Program) (N fl:Nat) (c:Code) (K:Exit→St→List O→Prop) (T:St) (H:List O):Prop :=
 ∀Γ a w,Γ.n0≤fl→Γ.dfr=[]→Inv N Γ T H a w→c.wpIn Fence.wide 0 P (fun e a' w'=>∃T' H' bs Z l,K e T' H'∧InvW Γ H' bs Z w'∧Quiet P Γ Z w' l a'.defers∧InvT N Γ T' bs Z { a' with defers:=[] } w') a w
theorem DefOk.quiet {Γ:Ctx} {Z:Nat→Prop} {w:World} {ds:List Deferred} (h:DefOk Γ Z w ds) (hd:Γ.dfr=[]):∃l,Quiet P Γ Z w l ds:=by
 obtain ⟨l,rfl,h2,h3⟩:=h;rw [hd];exact ⟨_,Quiet.nil.marks l (by simpa using h2) h3⟩
theorem InvT.nod {Γ:Ctx} {bs:Bs} {Z:Nat→Prop} {a:Act} {w:World} (h:InvT N Γ T bs Z a w) (hd:Γ.dfr=[]):InvT N Γ T bs Z { a with defers:=[] } w:=⟨h.size,.nil hd,h.rel⟩
theorem awpF_seq {x y:Code} (h:awp P false N fl x (thenQ (awpF P N fl y K) K) T H):awpF P N fl (.seq x y) K T H:=by
 intro Γ a w hn hd hi;refine wpIn_seq (wpIn_mono (h none rfl Γ a w hn hi) ?_);rintro e a' w' ⟨T',H',hk,hi'⟩;cases e with
 | normal=>exact hk Γ a' w' hn hd hi'
 | _ =>
  obtain ⟨bs,Z,hW,hI⟩:=hi';obtain ⟨l,hl⟩:=hI.defers.quiet (P:=P) hd;exact ⟨T',H',bs,Z,l,hk,hW,hl,hI.nod hd⟩
theorem HCall.of_awpF (hT:Tab.ok P tt) {f:FuncId} {fn:Func} {c:Code} {args:List V} {r:V} {H':List O} (hf:P.funcs[f]? = some fn) (hb:fn.body=some c) (hn:(fn.name == "runtime.NumGoroutine")=false) (hN:fn.ntmps=N) {fl:Nat} (hfl:H.length=fl)
 (hlen:args.length≤N) (h:awpF P N fl c (retS tt fn.results.toList fl r H') (entryV args) H):HCall P f args H r H':=by
 subst hfl;refine ⟨⟨fn,hf,hn,by simp [hb]⟩,?_⟩;intro Γ bs Z w cs hW hn0 hl hargs;have hI:=entry_rel (Γ:={ Γ with dfr:=[] }) (n:=fn.ntmps) (N:=N) (bs:=bs) (Z:=Z) (w:=w) rfl hN hlen hl hargs;refine callsIn_wide.1 (callsIn_of_wp_marks hf hb (F:=Fence.wide) (n:=0) trivial ?_);refine wpIn_mono (h { Γ with dfr:=[] } _ w hn0 rfl ⟨bs,Z,hW.dfr [],hI⟩) ?_;rintro e a' w' ⟨T',H2,bs2,Z2,l,⟨he,is,r0,hres,hr,hok,hH⟩,hW2,hq,hI2⟩;subst hr;subst hH
 have key:LeavesInM Fence.wide 0 P fn a'.tmps (fun e w'=>∃c bs' Z',e = .returned c∧InvW Γ (selH is H2) bs' Z' w'∧RV bs' Z' w' (r0.re (inIds is 0)) c) a'.defers .returning w':=by
  refine hq.all l w' hW2 ?_;intro w3 hW3 hc3;have hI3:InvT N { Γ with dfr:=[] } T' bs2 Z2 { a' with defers:=[] } w3:=⟨hI2.size,.nil rfl,fun i x hx=>⟨(hI2.rel i x hx).1,(hI2.rel i x hx).2.monoC (fun _ _ h=>h) (fun _ h=>h) (fun a _=>hc3 a)⟩⟩
  obtain ⟨c,hc1,hc4⟩:=results_run (P:=P) hT hW3 hI3 hres;exact ⟨c,hc1,c,selB is bs2,Z2,rfl,hW3.undfr.sel is hok hn0,hc4.re _ selB_re⟩
 rcases he with rfl|rfl
 ·exact key
 ·exact key
theorem Quiet.nodup {Γ:Ctx} {Z:Nat→Prop} {w:World} {l:List Nat} {ds:List Deferred} (q:Quiet P Γ Z w l ds):l.Nodup∧∀b∈l,Z b:=by
 induction q with
 | nil=>exact ⟨List.nodup_nil,fun b h=>by simp at h⟩
 | idle _ _ _ ih=>exact ih
 | mark b h1 h2 h3 h4 _ ih=>exact ⟨List.nodup_cons.2 ⟨h4,ih.1⟩,fun b' h=>by
  rcases ZM.1 h with rfl|h
  ·exact h2
  ·exact ih.2 _ h⟩
def InvW.here {Γ:Ctx} {bs:Bs} {Z:Nat→Prop} {w:World} (hW:InvW Γ H bs Z w) (ds:List Deferred):Ctx :=
 { w0:=w,Z0:=Z,B0:=fun b=>∃i k,bs[i]? = some (some (b,k)),lay:=hW.lay,layB:=(by
  rintro b hb ⟨i,k,h⟩;refine hW.disj i b k h ?_;have:b=0∨b=1:=by omega
  rcases this with rfl|rfl
  ·exact hW.lay.z0
  ·exact hW.lay.z1),dfr:=ds,pin:=Γ.pin,n0:=Γ.n0,pinlt:=Γ.pinlt }
theorem InvW.hereW {Γ:Ctx} {bs:Bs} {Z:Nat→Prop} {w:World} (hW:InvW Γ H bs Z w) (ds:List Deferred):InvW (hW.here ds) H bs Z w :=
 ⟨hW.lenH,hW.objs,hW.nodup,hW.disj,hW.lt,hW.zlt,fun _ h=>h,fun i b k h => .inr ⟨i,k,h⟩,fun _ h => .inl h,Zx _,fun _ _ _=>rfl,rfl,rfl,rfl,hW.pin⟩
theorem InvW.back {Γ:Ctx} {bs bs':Bs} {Z Z':Nat→Prop} {w w':World} (hW:InvW Γ H bs Z w) {ds:List Deferred} (h:InvW (hW.here ds) H' bs' Z' w'):InvW Γ H' bs' Z' w' where
 lenH:=h.lenH
 objs:=h.objs
 nodup:=h.nodup
 disj:=h.disj
 lt:=h.lt
 zlt:=h.zlt
 z0 b hb:=h.z0 b (hW.z0 b hb)
 fresh i b k hb:=by
  rcases h.fresh i b k hb with g|⟨j,k',g⟩
  ·have g:w.heap.size≤b:=g;exact .inl (Z3 hW.size g)
  ·exact hW.fresh j b k' g
 zfresh b hb:=by
  rcases h.zfresh b hb with g|g|⟨j,k',g⟩
  ·exact hW.zfresh b g
  ·have g:w.heap.size≤b:=g;exact .inr (.inl (Z3 hW.size g))
  ·exact .inr (hW.fresh j b k' g)
 size:=Z3 hW.size h.size
 frame b hb hB:=by
  have h1:b<w.heap.size:=Yg hb hW.size;refine (h.frame b h1 ?_).trans (hW.frame b hb hB);rintro ⟨i,k,g⟩;rcases hW.fresh i b k g with g'|g'
  ·omega
  ·exact hB g'
 os:=h.os.trans hW.os
 tape:=h.tape.trans hW.tape
 output:=h.output.trans hW.output
 pin:=h.pin
theorem awpF_behind {Γ:Ctx} {a:Act} {w:World} {d:Deferred} {y:Code} (hd:Idle P d) (hn:Γ.n0≤fl) (hdf:Γ.dfr=[]) (hi:Inv N Γ T H a w) (h:awp P false N fl y K T H) :
 y.wpIn Fence.wide 0 P (fun e a' w'=>∃T' H' bs Z l,K e T' H'∧InvW Γ H' bs Z w'∧Quiet P Γ Z w' l a'.defers∧InvT N Γ T' bs Z { a' with defers:=[] } w') { a with defers:=d::a.defers } w:=by
 obtain ⟨bs,Z,hW,hI⟩:=hi;obtain ⟨l0,q0⟩:=hI.defers.quiet (P:=P) hdf;have hI':InvT N (hW.here (d::a.defers)) T bs Z { a with defers:=d::a.defers } w:=⟨hI.size,⟨[],rfl,List.nodup_nil,fun d h=>by simp at h⟩,hI.rel⟩
 refine wpIn_mono (h none rfl (hW.here (d::a.defers)) _ w hn ⟨bs,Z,hW.hereW _,hI'⟩) ?_;rintro e a2 w2 ⟨T',H',hk,bs2,Z2,hW2,hI2⟩;obtain ⟨l,hl,hnd,hm⟩:=hI2.defers;have hb:Quiet P Γ Z2 w2 l0 a.defers:=q0.mono fun b hb g1 g2 g3=>⟨g1,hW2.z0 b g2,(hW2.frame b (hW.zlt b g2) (by rintro ⟨i,k,g⟩;exact hW.disj i b k g g2)).trans g3⟩
 have hq:=(Quiet.idle d hd hb).marks l (by
  rw [List.nodup_append];refine ⟨hnd,q0.nodup.1,?_⟩;rintro b hb1 c hc rfl;have h1:w.heap.size≤b:=(hm b hb1).1;have:=hW.zlt b (q0.nodup.2 b hc)
  omega) (fun d hd=>⟨Z3 hW.size (hm d hd).1,(hm d hd).2.1,(hm d hd).2.2⟩)
 refine ⟨T',H',bs2,Z2,l++l0,hk,hW.back hW2,?_,⟨hI2.size,.nil hdf,hI2.rel⟩⟩;rw [hl];exact hq
theorem awpF_defer (hT:Tab.ok P tt) {id:Nat} {ops:Array Oper} {y:Code} {mk df:Oper} {c:Call} {t:Tmp} {g:FuncId} {caps:Array Operand} (ks:List Nat) (ho:ops.toList=[mk,df]) (hm:mk.op = .makeFunc (.func g) #[] caps) (hmd:mk.dst=some t) (hmg:mk.guard=none) (ht:t<N)
 (hd:df.op = .defer c) (hc:c.callee = .value (.tmp t)) (hca:c.args = #[]) (hdd:df.dst=none) (hdg:df.guard=none) (hi:∀cs:Array Value,cs.size=caps.size→Idle P { target := .fn (.func g) cs,args := #[] })
 (h:awp P false N fl y K (keepT ks (putT (some t) .top T)) H):awpF P N fl (.seq (.region id ops false) y) K T H:=by
 intro Γ a w hn hdf hinv;refine wpIn_seq (wpIn_region ?_);have hsz:ops.size=2:=by rw [←YC,ho];rfl
 have h0:ops[0]? = some mk:=by rw [←Array.getElem?_toList,ho];rfl
 have h1:ops[1]? = some df:=by rw [←Array.getElem?_toList,ho];rfl
 rw [hsz];show wpOpsIn _ _ _ _ _ [0,1] _ _
 have e1:(mk.semAt Fence.wide.round a.eval).run P w = .ok (.value (.func (.func g) #[] (caps.map a.eval))) w:=by
  show (execOp a.eval mk).run P w=_;simp [execOp,hm,Instr.makeFunc]
 generalize hv:Value.func (.func g) #[] (caps.map a.eval)=v at e1
 have hev:(a.put (some t) v).eval (.tmp t)=v:=by
  obtain ⟨bs,Z,hW,hI⟩:=hinv;have:t<a.tmps.size:=by rw [hI.size];exact ht
  simp [Act.put,Act.eval,this]
 have e2:(df.semAt Fence.wide.round (a.put (some t) v).eval).run P w = .ok (.defer { target := .fn (.func g) (caps.map a.eval),args := #[] }) w:=by
  show (execOp (a.put (some t) v).eval df).run P w=_;simp only [execOp,hd,resolve,hc,hca,hev];rw [←hv];simp [Deferred.ofValue]
 have w1:Region.wanted mk (yielded ops a.tmps)=true:=by simp [Region.wanted,hmg]
 have w2:Region.wanted df (yielded ops (a.put (some t) v).tmps)=true:=by simp [Region.wanted,hdg]
 unfold wpOpsIn;simp only [h0];rw [if_pos w1];refine ⟨fun _ _=>trivial,?_⟩;rw [e1,Oper.uponIn_value,hmd];unfold wpOpsIn;simp only [h1];rw [if_pos w2];refine ⟨fun _ _=>trivial,?_⟩;rw [e2,Oper.uponIn_defer,hdd];show y.wpIn _ _ _ _ _ _;refine awpF_behind (hi _ (by simp)) hn hdf ?_ h;obtain ⟨bs,Z,hW,hI⟩:=hinv;exact Inv.keep ⟨bs,Z,hW,hI.put (fun d hd=>by simp at hd;subst hd;exact ht) (.top v)⟩ ks
end
end Go.Sx
end
