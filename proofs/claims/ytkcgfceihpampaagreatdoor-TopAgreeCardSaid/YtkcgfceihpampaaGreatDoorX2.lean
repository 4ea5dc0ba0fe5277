/- A calculus of abstract states for Go programs, part 2: what it computes is what the program does. -/
import Derived.Test.YtkcgfceihpampaaGreatDoorX1
import Derived.Deep.AppendSrc
import Derived.RangeFuncLeaves
section
namespace Go.Sx
open Go
set_option linter.unusedSimpArgs false
set_option linter.unusedVariables false
def putT (dst:Option Tmp) (v:V) (T:St):St :=
 match dst with
 | some d=>(d,v)::T.filter fun p=>p.1 != d
 | none=>T
def O.only (p:Nat→Bool):O→O
 | .cells xs => .cells (V.onlyL p xs)
 | .data ds => .data ds
 | .fixed ds => .fixed ds
 | .map kvs => .map kvs
 | .loop st ps as bd N T => .loop st ps as bd N (T.map fun q=>(q.1,q.2.only p))
 | .vec xs ns zs => .vec (V.onlyL p xs) ns (V.onlyL p zs)
 | .bld (some (some (l,j)))=>if p j then .bld (some (some (l,j))) else .bld none
 | .bld st => .bld st
 | .bldr l => .bldr l
def onlyT (p:Nat→Bool) (T:St):St:=T.map fun q=>(q.1,q.2.only p)
def onlyH (p:Nat→Bool) (H:List O):List O:=H.map (O.only p)
def StoreOk (xs:List V) (off:Nat) (vs xs':List V):Prop:=off+vs.length≤xs.length∧putAt xs off vs=xs'
def MakeOk (n m:Int) (k:Nat) (bytes:Nat) (zero:List Value) (ds:List D):Prop :=
 n=m∧k=n.toNat∧0≤n∧n*bytes≤140737488355328∧n≤9223372036854775807∧ds=(List.replicate n.toNat (zero.map D.v)).flatten
def dataAt (H:List O) (id:Nat):Option (List V) :=
 match H[id]? with
 | some (.data ds)=>some (ds.map .d)
 | _=>none
theorem dataAt_row {H:List O} {id:Nat} {xs:List V} (h:dataAt H id=some xs):rowAt H id=some xs∧∀o,H[id]? = some o→o.isData=true:=by
 unfold dataAt at h;split at h
 ·rename_i ds hd;simp at h;subst h;exact ⟨by simp [rowAt,hd,O.row],fun ys hy=>by rw [hd] at hy;simp at hy;subst hy;rfl⟩
 ·simp at h
def evStore (i:TI) (h:Hint) (T:St) (H:List O):V→V→Option (V×St×List O×List Prop)
 | .ref id off,x =>
  match H[id]?,x.cells with
  | some (.cells xs),some vs =>
   match h with
   | .vals xs'=>some (.top,T,H.set id (.cells xs'),[vs.length=i.size,StoreOk xs off vs xs'])
   | _=>if vs.length==i.size then (if Nat.ble (off+i.size) xs.length then some (.top,T,H.set id (.cells (putAt xs off vs)),[]) else none) else none
  | some (.vec xs ns zs),some vs =>
   match h with
   | .nums ns'=>some (.top,T,H.set id (.vec xs ns' zs),[vs.length=i.size,StoreOk (vecV xs ns zs) off vs (vecV xs ns' zs)])
   | _=>if vs.length==i.size then (if Nat.ble (off+i.size) xs.length then some (.top,T,H.set id (.vec (putAt xs off vs) ns zs),[]) else none) else none
  | some (.data ds),some vs =>
   if vs.length==i.size then
    match h with
    | .cells ds'=>some (.top,T,H.set id (.data ds'),[StoreOk (ds.map .d) off vs (ds'.map .d)])
    | _=>none
   else none
  | some (.fixed ds),some vs =>
   if vs.length==i.size then
    match h with
    | .cells ds'=>some (.top,T,H.set id (.fixed ds'),[StoreOk (ds.map .d) off vs (ds'.map .d)])
    | _=>none
   else none
  | _,_=>none
 | _,_=>none
def evMake (tt:Tab) (i:TI) (h:Hint) (T:St) (H:List O):V→V→Option (V×St×List O×List Prop)
 | .d (.v (.int .i64 n)),.d (.v (.int .i64 m)) =>
  match i.kind,h with
  | .slice t,.list k ds=>(tt.lookup t).bind fun it=>some (.sl it.size H.length 0 k,T,H++[.data ds],[MakeOk n m k it.bytes it.zero ds])
  | _,_=>none
 | _,_=>none
def evAppend (tt:Tab) (i:TI) (h:Hint) (T:St) (H:List O):V→V→Option (V×St×List O×List Prop)
 | .sl e id 0 n,x =>
  match i.kind,h,dataAt H id,srcOf e x with
  | .slice t,.list k out,some xs,some (m,src) =>
   (tt.lookup t).bind fun it=>if it.size==e&&Nat.blt 0 e then
    some (.sl e id 0 k,onlyT (· != id) T,(onlyH (· != id) H).set id (.data out),[AppendOk xs n m k e it.bytes src out])
   else none
  | _,_,_,_=>none
 | _,_=>none
def byteD (s:ByteArray):List D:=s.data.toList.map fun b => .v (.int .u8 b.toNat)
def evAppendS (tt:Tab) (i:TI) (h:Hint) (T:St) (H:List O):V→V→Option (V×St×List O×List Prop)
 | .sl e id 0 n,.d (.v (.string s)) =>
  match i.kind,h,dataAt H id with
  | .slice t,.list k out,some xs =>
   (tt.lookup t).bind fun it=>if it.size==e&&e==1 then
    some (.sl e id 0 k,onlyT (· != id) T,(onlyH (· != id) H).set id (.data out),[AppendOk xs n s.size k e it.bytes (byteD s) out∧0<s.size])
   else none
  | _,_,_=>none
 | _,_=>none
def strT (tt:Tab) (t:TypeId):Bool :=
 match (tt.lookup t).map TI.kind with
 | some .string=>true
 | _=>false
def O.ds:O→Option (List D)
 | .data ds=>some ds
 | .fixed ds=>some ds
 | _=>none
def evCopy (tt:Tab) (i:TI) (h:Hint) (T:St) (H:List O):V→V→Option (V×St×List O×List Prop)
 | .sl e id off n,.d (.list _ e' m cells) =>
  match i.kind,H[id]? with
  | .slice t,some (.vec xs0 ns zs) =>
   match h with
   | .vals out=>(tt.lookup t).bind fun it =>
    if it.size==e&&e'==e then
     some (vi (min m n:Nat),T,H.set id (.cells out),[0<(vecV xs0 ns zs).length∧cells.length=m*e∧off+n*e≤(vecV xs0 ns zs).length∧putAt (vecV xs0 ns zs) off ((cells.take (min m n*e)).map .d)=out])
    else none
   | _=>none
  | .slice t,some (.cells xs) =>
   (tt.lookup t).bind fun it =>
    if it.size==e&&e'==e&&Nat.beq cells.length (m*e)&&Nat.ble (off+n*e) xs.length then
     some (vi (min m n:Nat),T,H.set id (.cells (putAt xs off ((cells.take (min m n*e)).map .d))),[])
    else none
  | _,_=>none
 | .sl e id off n,.sl e' id2 off2 m =>
  match i.kind,H[id]?,H[id2]?,h with
  | .slice t,some (.data xs),some o2,.cells out =>
   match o2.ds with
   | some ys=>(tt.lookup t).bind fun it =>
    if it.size==e&&e'==e&&id2 != id then
     some (vi (min m n:Nat),T,H.set id (.data out),[off+n*e≤xs.length∧((ys.drop off2).take (m*e)).length=m*e∧putAt xs off (((ys.drop off2).take (m*e)).take (min m n*e))=out])
    else none
   | none=>none
  | _,_,_,_=>none
 | _,_=>none
def evMapSet (P:Program) (i:TI) (h:Hint) (T:St) (H:List O):V→V→V→Option (V×St×List O×List Prop)
 | .mp id,.d kd,.d vd =>
  match H[id]?,i.kind,h with
  | some (.map kvs),.map kt _,.kvs kvs'=>if arrB P kt||eqB P kt kd then some (.top,T,H.set id (.map kvs'),(setD kd vd kvs=some kvs')::arrP P kt kd) else none
  | _,_,_=>none
 | _,_,_=>none
def evEff (P:Program) (tt:Tab) (o:Oper) (h:Hint) (T:St) (H:List O):Option (V×St×List O×List Prop) :=
 match o.op with
 | .alloc t =>
  match h with
  | .own=>if Nat.beq t 275 then (tt.lookup t).bind fun i=>(match i.zero with|[.pointer none,.slice none 0 0]=>some (.ref H.length 0,T,H++[.bld (some none)],[])|_=>none) else none
  | _=>(tt.lookup t).map fun i=>(.ref H.length 0,T,H++[.cells (i.zero.map fun z => .d (.v z))],[])
 | .box t x=>(getV T x).cells.map fun vs=>(.ref H.length 0,T,H++[.cells vs],[])
 | .buildSlice t len parts=>if Nat.ble len 16777216 then (tt.lookup t).bind fun i=>(evBuildRow tt i (getV T) len parts.toList).bind fun (e,vs)=>(allD vs).map fun ds=>(.sl e H.length 0 len,T,H++[.data ds],[]) else none
 | .store t a x=>(tt.lookup t).bind fun i=>evStore i h T H (getV T a) (getV T x)
 | .makeSlice t l c=>(tt.lookup t).bind fun i=>evMake tt i h T H (getV T l) (getV T c)
 | .call c =>
  match c.callee,c.args.toList,c.argTypes.toList with
  | .builtin .append,[s,x],[t,t'] =>
   if t==t' then (tt.lookup t).bind fun i=>evAppend tt i h T H (getV T s) (getV T x)
   else if strT tt t' then (tt.lookup t).bind fun i=>evAppendS tt i h T H (getV T s) (getV T x) else none
  | .builtin .copy,[s,x],t::_=>(tt.lookup t).bind fun i=>evCopy tt i h T H (getV T s) (getV T x)
  | _,_,_=>none
 | .makeMap t none=>(tt.lookup t).map fun _=>(.mp H.length,T,H++[.map []],[])
 | .mapUpdate t m k x=>(tt.lookup t).bind fun i=>evMapSet P i h T H (getV T m) (getV T k) (getV T x)
 | _=>none
def isEff (o:Oper) (h:Hint):Bool :=
 match o.op with
 | .alloc _ | .box _ _ | .store _ _ _ | .makeSlice _ _ _ | .makeMap _ _ | .mapUpdate _ _ _ _=>true
 | .buildSlice _ _ _=>(match h with | .own=>true|_=>false)
 | .call c=>(match c.callee with | .builtin .append=>(match h with | .listT _ _=>false|_=>true) | .builtin .copy=>true|_=>false)
 | _=>false
section sound
variable {P:Program} {tt:Tab} {bs:Bs} {Z:Nat→Prop} {w:World} {o:Oper} {a:Act} {v:V} {ps:List Prop} {N:Nat} {Γ:Ctx} {T T':St} {H H':List O}
def Does (P:Program) (N:Nat) (Γ:Ctx) (o:Oper) (a:Act) (w:World) (v:V) (T':St) (H':List O):Prop :=
 ∀(next:Act→World→Prop) (Q:Exit→Act→World→Prop),(∀c bs' Z' w',InvW Γ H' bs' Z' w'→InvT N Γ T' bs' Z' a w'→RV bs' Z' w' v c→next (a.put o.dst c) w')→o.wp P a w next Q
theorem InvT.mono {bs bs':Bs} {Z Z':Nat→Prop} {w w':World} (h:InvT N Γ T bs Z a w) (hb:∀(i:Nat) (o:Option (Nat×Nat)),bs[i]? = some o→bs'[i]? = some o) (hZ:∀b,Z b→Z' b)
 (hw:∀b,Z b→w'.heap[b]? = w.heap[b]?):InvT N Γ T bs' Z' a w':=⟨h.size,h.defers.mono hZ hw,fun i x hx=>⟨(h.rel i x hx).1,(h.rel i x hx).2.mono hb hZ hw⟩⟩
theorem bs_push {bs:Bs} {y:Option (Nat×Nat)} (i:Nat) (o:Option (Nat×Nat)) (h:bs[i]? = some o):(bs++[y])[i]? = some o:=by
 rw [ZT (Zb.1 h).1];exact h
theorem InvW.push (hW:InvW Γ H bs Z w) (ob:Obj) (n:O) (k:Nat) (hn:okO (bs++[some (w.heap.size,k)]) Z (w.alloc ob) n (some (w.heap.size,k))) :
 InvW Γ (H++[n]) (bs++[some (w.heap.size,k)]) Z (w.alloc ob):=by
 have hold:∀b,b<w.heap.size→(w.alloc ob).heap[b]? = w.heap[b]? := fun b hb=>(Grow.alloc Z w ob).heap b hb
 have hcase:∀(i:Nat) (b k':Nat),(bs++[some (w.heap.size,k)])[i]? = some (some (b,k'))→bs[i]? = some (some (b,k'))∨(i=bs.length∧b=w.heap.size):=by
  intro i b k' h;rw [ZA] at h;split at h
  ·exact .inl h
  ·rename_i hge;right
   have:i-bs.length=0:=by
    rcases Yc (i-bs.length) with h0|h0
    ·exact h0
    ·rw [ZC (by simp;omega)] at h;simp at h
   rw [this] at h;simp at h;exact ⟨by omega,h.1.symm⟩
 constructor
 ·simp [hW.lenH]
 ·intro i o' b ho hb;rw [ZA] at ho hb;rw [←hW.lenH] at ho;split at ho
  ·rename_i hlt;rw [if_pos hlt] at hb;exact (hW.objs i o' b ho hb).mono bs_push (fun _ h=>h) (fun b hb=>hold b (hW.zlt b hb)) (fun q q' hq=>hold q (hW.lt i q q' (hq▸hb)))
  ·rename_i hlt;rw [if_neg hlt] at hb
   have:i-bs.length=0:=by
    rcases Yc (i-bs.length) with h0|h0
    ·exact h0
    ·rw [ZC (by simp;omega)] at ho;simp at ho
   rw [this] at ho hb;simp at ho hb;subst ho;subst hb;exact hn
 ·intro i j b k1 k2 hi hj;rcases hcase i b k1 hi with h1|⟨h1,h1'⟩<;>rcases hcase j b k2 hj with h2|⟨h2,h2'⟩
  ·exact hW.nodup i j b k1 k2 h1 h2
  ·have:=hW.lt i b k1 h1;omega
  ·have:=hW.lt j b k2 h2;omega
  ·omega
 ·intro i b k1 hi hz;rcases hcase i b k1 hi with h1|⟨h1,h1'⟩
  ·exact hW.disj i b k1 h1 hz
  ·have:=hW.zlt b hz;omega
 ·intro i b k1 hi;rcases hcase i b k1 hi with h1|⟨h1,h1'⟩
  ·have:=hW.lt i b k1 h1;simp;omega
  ·simp;omega
 ·intro b hb;have:=hW.zlt b hb;simp;omega
 ·exact hW.z0
 ·intro i b k1 hi;rcases hcase i b k1 hi with h1|⟨h1,h1'⟩
  ·exact hW.fresh i b k1 h1
  ·have:=hW.size;left;omega
 ·exact hW.zfresh
 ·have:=hW.size;simp;omega
 ·intro b hb hn';rw [hold b (by have:=hW.size;omega)];exact hW.frame b hb hn'
 ·exact hW.os
 ·exact hW.tape
 ·exact hW.output
 ·intro i p hp;obtain ⟨h1,xs,h2,h3⟩:=hW.pin i p hp;exact ⟨bs_push _ _ h1,xs,by rw [ZT (Zb.1 h2).1];exact h2,h3⟩
theorem RVL.mono {bs bs':Bs} {Z Z':Nat→Prop} {w w':World} {vs:List V} {cs:List Value} (h:RVL bs Z w vs cs) (hb:∀(i:Nat) (o:Option (Nat×Nat)),bs[i]? = some o→bs'[i]? = some o) (hZ:∀b,Z b→Z' b)
 (hw:∀b,Z b→w'.heap[b]? = w.heap[b]?):RVL bs' Z' w' vs cs:=⟨h.1,fun j x c hx hc=>⟨(h.2 j x c hx hc).1,(h.2 j x c hx hc).2.mono hb hZ hw⟩⟩
theorem okO.ofL {vs:List V} {cs:Array Value} {t:TypeId} {b:Nat} (h:w.heap[b]? = some (.cells cs t (0,0))) (hv:RVL bs Z w vs (cs.toList.take vs.length)) (hl:vs.length≤cs.size):okO bs Z w (.cells vs) (some (b,cs.size)):=by
 refine ⟨cs,t,h,rfl,hl,fun j x hx=>?_⟩;have hj:j<vs.length:=(Zb.1 hx).1;have hc:cs[j]? = some cs[j]:=by simp [show j<cs.size by omega]
 refine ⟨cs[j],hc,?_⟩;exact hv.2 j x cs[j] hx (by rw [Zr,if_pos hj];simp)
theorem okO.ofD {ds:List D} {cs:Array Value} {t:TypeId} {b:Nat} (h:w.heap[b]? = some (.cells cs t (0,0))) (hv:RDL Z w ds (cs.toList.take ds.length)) (hl:ds.length≤cs.size):okO bs Z w (.data ds) (some (b,cs.size)):=by
 refine ⟨cs,t,h,rfl,hl,fun j x hx=>?_⟩;have hj:j<ds.length:=(Zb.1 hx).1;have hc:cs[j]? = some cs[j]:=by simp [show j<cs.size by omega]
 refine ⟨cs[j],hc,?_⟩;exact hv.2 j x cs[j] hx (by rw [Zr,if_pos hj];simp)
theorem okO.ofF {ds:List D} {cs:Array Value} {t:TypeId} {b:Nat} (h:w.heap[b]? = some (.cells cs t (0,0))) (hv:RDL Z w ds (cs.toList.take ds.length)) (hl:ds.length≤cs.size):okO bs Z w (.fixed ds) (some (b,cs.size)):=by
 refine ⟨cs,t,h,rfl,hl,fun j x hx=>?_⟩;have hj:j<ds.length:=(Zb.1 hx).1;have hc:cs[j]? = some cs[j]:=by simp [show j<cs.size by omega]
 refine ⟨cs[j],hc,?_⟩;exact hv.2 j x cs[j] hx (by rw [Zr,if_pos hj];simp)
theorem new_cells (hW:InvW Γ H bs Z w) (hI:InvT N Γ T bs Z a w) {vs:List V} {cs:Array Value} (t:TypeId) (hv:RVL bs Z w vs cs.toList) :
 InvW Γ (H++[.cells vs]) (bs++[some (w.heap.size,cs.size)]) Z (w.alloc (.cells cs t))∧InvT N Γ T (bs++[some (w.heap.size,cs.size)]) Z a (w.alloc (.cells cs t)):=by
 have hold:∀b,Z b→(w.alloc (.cells cs t)).heap[b]? = w.heap[b]? := fun b hb=>(Grow.alloc Z w _).heap b (hW.zlt b hb);have hl:vs.length=cs.size:=by have:=hv.1;simp at this;omega
 refine ⟨hW.push _ _ _ (okO.ofL (heap_alloc w _) ?_ (by omega)),hI.mono bs_push (fun _ h=>h) hold⟩;rw [ZH (by simp;omega)];exact hv.mono bs_push (fun _ h=>h) hold
theorem new_data (hW:InvW Γ H bs Z w) (hI:InvT N Γ T bs Z a w) {ds:List D} {cs:Array Value} (t:TypeId) (hv:RDL Z w ds (cs.toList.take ds.length)) (hl:ds.length≤cs.size) :
 InvW Γ (H++[.data ds]) (bs++[some (w.heap.size,cs.size)]) Z (w.alloc (.cells cs t))∧InvT N Γ T (bs++[some (w.heap.size,cs.size)]) Z a (w.alloc (.cells cs t)):=by
 have hold:∀b,Z b→(w.alloc (.cells cs t)).heap[b]? = w.heap[b]? := fun b hb=>(Grow.alloc Z w _).heap b (hW.zlt b hb);refine ⟨hW.push _ _ _ (okO.ofD (heap_alloc w _) ?_ hl),hI.mono bs_push (fun _ h=>h) hold⟩;exact ⟨hv.1,fun j x c hx hc=>⟨(hv.2 j x c hx hc).1,(hv.2 j x c hx hc).2.mono (fun _ h=>h) hold⟩⟩
theorem bs_last (hW:InvW Γ H bs Z w) (y:Option (Nat×Nat)):(bs++[y])[H.length]? = some y:=by
 rw [←hW.lenH,List.getElem?_append_right (Zx _)];simp
variable (hT:Tab.ok P tt)
theorem Does.val {c:Value} {bs':Bs} {Z':Nat→Prop} {w':World} (h:(execOp a.eval o).run P w = .ok (.value c) w') (hW:InvW Γ H' bs' Z' w') (hI:InvT N Γ T' bs' Z' a w') (hv:RV bs' Z' w' v c):Does P N Γ o a w v T' H':=by
 intro next Q hn;unfold Oper.wp;rw [h];exact hn c bs' Z' w' hW hI hv
include hT in
theorem alloc_sound (hW:InvW Γ H bs Z w) (hI:InvT N Γ T bs Z a w) {t:TypeId} {i:TI} (ho:o.op = .alloc t) (hi:tt.lookup t=some i) :
 Does P N Γ o a w (.ref H.length 0) T (H++[.cells (i.zero.map fun z => .d (.v z))]):=by
 obtain ⟨z,hz1,hz2⟩:=run_zero hT hi w;have hz:=zero_rel hT (bs:=bs) (Z:=Z) (w:=w) hi z hz2;obtain ⟨h1,h2⟩:=new_cells hW hI t hz;refine Does.val ?_ h1 h2 (.ref _ _ _ _ (bs_last hW _));simp only [execOp,ho,Instr.alloc,Zy,hz1,Zm,newVar,newRow,run_newObj,ZJ];rfl
include hT in
theorem allocB_sound (hW:InvW Γ H bs Z w) (hI:InvT N Γ T bs Z a w) {t:TypeId} {i:TI} (ho:o.op = .alloc t) (hi:tt.lookup t=some i) (ht:t=275) (hz:i.zero=[.pointer none,.slice none 0 0]) :
 Does P N Γ o a w (.ref H.length 0) T (H++[.bld (some none)]):=by
 obtain ⟨z,hz1,hz2⟩:=run_zero hT hi w
 have hzc:z.cells = #[.pointer none,.slice none 0 0]:=by
  apply Array.ext';rw [hz2,hz]
 have hold:∀b,Z b→(w.alloc (.cells z.cells t)).heap[b]? = w.heap[b]? := fun b hb=>(Grow.alloc Z w _).heap b (hW.zlt b hb)
 have hWn:InvW Γ (H++[.bld (some none)]) (bs++[some (w.heap.size,2)]) Z (w.alloc (.cells z.cells t)):=by
  refine hW.push _ _ 2 ?_;show (w.alloc _).heap[w.heap.size]? = _;rw [heap_alloc,hzc,ht]
 refine Does.val (c := .pointer (some ⟨w.heap.size,0,none⟩)) (w':=w.alloc (.cells z.cells t)) ?_ hWn (hI.mono bs_push (fun _ h=>h) hold) (.ref _ _ _ _ (bs_last hW _));simp only [execOp,ho,Instr.alloc,Zy,hz1,Zm,newVar,newRow,run_newObj,ZJ];rfl
theorem box_sound (hW:InvW Γ H bs Z w) (hI:InvT N Γ T bs Z a w) {t:TypeId} {x:Operand} {vs:List V} (ho:o.op = .box t x) (hv:(getV T x).cells=some vs) :
 Does P N Γ o a w (.ref H.length 0) T (H++[.cells vs]):=by
 have hr:=(getV_sound hI x).one hv;obtain ⟨h1,h2⟩:=new_cells hW hI t hr;refine Does.val ?_ h1 h2 (.ref _ _ _ _ (bs_last hW _));simp only [execOp,ho,Instr.box,Zy,Zm,newVar,newRow,run_newObj,ZJ];rfl
include hT in
theorem buildOwn_sound (hW:InvW Γ H bs Z w) (hI:InvT N Γ T bs Z a w) {t:TypeId} {len:Nat} {parts:Array (Nat×Operand)} {i:TI} {e:Nat} {vs:List V} {ds:List D} (ho:o.op = .buildSlice t len parts)
 (hi:tt.lookup t=some i) (he:evBuildRow tt i (getV T) len parts.toList=some (e,vs)) (hd:allD vs=some ds) (hm:len≤9223372036854775807) :
 Does P N Γ o a w (.sl e H.length 0 len) T (H++[.data ds]):=by
 obtain ⟨cs,el,hr,hR,hs⟩:=run_buildSlice hT (P:=P) (w:=w) (Z:=Z) (fun p _=>getV_sound hI p.2) hi he;have:=allD_map hd;subst this;have hRD:=hR.toD;have hl:ds.length=cs.size:=by have:=hRD.1;simp at this;omega
 obtain ⟨h1,h2⟩:=new_data hW hI (a:=a) (T:=T) (ds:=ds) (cs:=cs) el (by rw [ZH (by simp;omega)];exact hRD) (by omega);refine Does.val (c := .slice (some ⟨w.heap.size,0,none⟩) len len) ?_ h1 h2 (.sl e _ 0 len _ _ len (bs_last hW _) (Zx _) (by omega) hm);simp only [execOp,ho,Zy,hr,Zm,ZJ]
omit hT in
theorem InvW.write (hW:InvW Γ H bs Z w) {id b k:Nat} {n:O} {w':World} (hb:bs[id]? = some (some (b,k))) (ho:∀b',b'≠b→w'.heap[b']? = w.heap[b']?) (hs:w'.heap.size=w.heap.size)
 (h1:w'.os=w.os) (h2:w'.tape=w.tape) (h3:w'.output=w.output) (hn:okO bs Z w' n (some (b,k))) (hc:∀o,H[id]? = some o→o.isData=false→n.isData=false):InvW Γ (H.set id n) bs Z w':=by
 have hz:∀b',Z b'→w'.heap[b']? = w.heap[b']? := fun b' hb'=>ho b' (fun e=>by subst e;exact hW.disj id b' k hb hb');constructor
 ·simp [hW.lenH]
 ·intro i o' q hi hq;rw [Zn] at hi;split at hi
  ·rename_i e;subst e;split at hi<;>simp at hi;subst hi;rw [hb] at hq;simp at hq;subst hq;exact hn
  ·rename_i e;refine (hW.objs i o' q hi hq).mono (fun _ _ h=>h) (fun _ h=>h) hz (fun g g' hg=>ho g (fun e'=>?_));subst e';subst hg;exact e (hW.nodup id i g k g' hb hq)
 ·exact hW.nodup
 ·exact hW.disj
 ·intro i b' k' hi;rw [hs];exact hW.lt i b' k' hi
 ·intro b' hb';rw [hs];exact hW.zlt b' hb'
 ·exact hW.z0
 ·exact hW.fresh
 ·exact hW.zfresh
 ·rw [hs];exact hW.size
 ·intro b' hlt hn'
  have:b'≠b:=by
   intro e;subst e;rcases hW.fresh id b' k hb with h|h
   ·omega
   ·exact hn' h
  rw [ho b' this];exact hW.frame b' hlt hn'
 ·rw [h1];exact hW.os
 ·rw [h2];exact hW.tape
 ·rw [h3];exact hW.output
 ·intro i p hp;obtain ⟨h1,xs,h2,h3⟩:=hW.pin i p hp;refine ⟨h1,?_⟩;rw [Zn];split
  ·rename_i e;subst e;exact ⟨n,by rw [if_pos (Zb.1 h2).1],hc xs h2 h3⟩
  ·exact ⟨xs,h2,h3⟩
omit hT in
theorem Does.skip {bs':Bs} {Z':Nat→Prop} {w':World} (h:(execOp a.eval o).run P w = .ok .skip w') (hW:InvW Γ H' bs' Z' w') (hI:InvT N Γ T' bs' Z' a w'):Does P N Γ o a w .top T' H':=by
 intro next Q hn;unfold Oper.wp;rw [h];exact hn undef bs' Z' w' hW hI (.top _)
omit hT in
theorem RVL.ones {vs:List V} {cs:List Value} (h:RVL bs Z w vs cs):∀c∈cs,c.oneCell'=true:=by
 intro c hc;obtain ⟨j,hj⟩:=Yd.1 hc;have hlt:j<vs.length:=by rw [←h.1];exact (Zb.1 hj).1
 exact (h.2 j vs[j] c (Zd hlt) hj).1
include hT in
theorem store_run (hW:InvW Γ H bs Z w) (hI:InvT N Γ T bs Z a w) {t:TypeId} {x y:Operand} {i:TI} (ho:o.op = .store t x y) (hi:tt.lookup t=some i) {id off:Nat} (hx:getV T x = .ref id off)
 {vs xs xs':List V} (hy:(getV T y).cells=some vs) (hl:vs.length=i.size) (hr:rowAt H id=some xs) (hle:off+vs.length≤xs.length) (hp:putAt xs off vs=xs') {n:O} (hn:n.row=some xs')
 (hn':∀ys,n.row=some ys→∀{b k:Nat} {cs:Array Value} {ty:TypeId} {w':World},w'.heap[b]? = some (.cells cs ty (0,0))→cs.size=k→RVL bs Z w' ys (cs.toList.take ys.length)→ys.length≤cs.size→okO bs Z w' n (some (b,k))) (hpc:∀o,H[id]? = some o→o.isData=false→n.isData=false) :
 Does P N Γ o a w .top T (H.set id n):=by
 have hv:=(getV_sound hI y).one hy;have hX:=getV_sound hI x;rw [hx] at hX;generalize hc:a.eval x=c at hX;cases hX with|ref _ _ b k hb =>
 obtain ⟨cs,ty,g1,g2,g3,g4⟩:=hW.row hr hb;have hvl:(a.eval y).cells.size=vs.length:=by have:=hv.1;simp at this;omega
 have hst:=run_storeCells_at P b off ty (a.eval y).cells.toList 0 cs w g1 (by simp;omega) hv.ones;simp only [Yp] at hst
 have e2:cs.toList.take off++(a.eval y).cells.toList++cs.toList.drop (off+(a.eval y).cells.toList.length)=putAt cs.toList off (a.eval y).cells.toList:=by
  rw [putAt_eq _ _ _ (by simp;omega)]
 rw [e2] at hst
 have hrun:(execOp a.eval o).run P w = .ok .skip (w.setRow b (putAt cs.toList off (a.eval y).cells.toList).toArray):=by
  have hne:¬((a.eval y).cells.size≠i.size):=by omega
  simp only [execOp,ho,Instr.storeAt,hc,Instr.sureAddr,Zy,ZJ,Zm,storeVar,run_size hT hi,Sem.run_ite,if_neg hne,hst]
 have hsz:(putAt cs.toList off (a.eval y).cells.toList).toArray.size=cs.size:=by simp [putAt_length]
 have hlen:xs'.length=xs.length:=by rw [←hp,putAt_length]
 have hz:∀b',Z b'→(w.setRow b (putAt cs.toList off (a.eval y).cells.toList).toArray).heap[b']? = w.heap[b']? := fun b' hb'=>setRow_other w b b' _ (fun e=>by subst e;exact hW.disj id b' k hb hb');refine Does.skip hrun (hW.write hb (fun b' hne=>setRow_other w b b' _ hne) (setRow_size _ _ _) rfl rfl rfl ?_ hpc) (hI.mono (fun _ _ h=>h) (fun _ h=>h) hz);refine hn' xs' hn (setRow_heap w b cs _ ty _ g1) (by rw [hsz];exact g3) ?_ (by omega);have h5:=RVL.putAt (bs:=bs) (Z:=Z) (w:=w) off g4 hv;rw [hp] at h5
 have e3:(putAt cs.toList off (a.eval y).cells.toList).toArray.toList.take xs'.length=putAt (cs.toList.take xs.length) off (a.eval y).cells.toList:=by
  rw [hlen,List.toList_toArray,putAt_eq _ _ _ (by simp;omega),putAt_eq _ _ _ (by simp;omega)];apply ZZ;intro j;have hlv:(a.eval y).cells.toList.length=vs.length:=by simpa using hvl
  simp only [Zr,Yi,ZA,ZS,ZK,hlv];have hmm:min off cs.toList.length=off:=by simp;omega
  have hm2:min off (min xs.length cs.toList.length)=off:=by simp;omega
  rw [hmm,hm2];by_cases h6:j<off
  ·simp [h6,show j<xs.length by omega]
  ·simp only [h6,if_false];by_cases h7:j-off<vs.length
   ·simp [h7,show j<xs.length by omega]
   ·simp only [h7,if_false];by_cases h8:j<xs.length
    ·rw [if_pos h8,if_pos (by omega)]
    ·rw [if_neg h8,if_neg (by omega)]
 rw [e3];exact h5.mono (fun _ _ h=>h) (fun _ h=>h) hz
include hT in
theorem store_sound (hW:InvW Γ H bs Z w) (hI:InvT N Γ T bs Z a w) {t:TypeId} {x y:Operand} {i:TI} {h:Hint} (ho:o.op = .store t x y) (hi:tt.lookup t=some i)
 (he:evStore i h T H (getV T x) (getV T y)=some (v,T',H',ps)) (hp:∀p∈ps,p):Does P N Γ o a w v T' H':=by
 generalize hx:getV T x=vx at he;unfold evStore at he;split at he
 ·rename_i id off;split at he
  ·rename_i xs vs hH hv;have hr:rowAt H id=some xs:=by simp [rowAt,hH,O.row]
   ·have fin:∀{xs':List V},vs.length=i.size→off+vs.length≤xs.length→putAt xs off vs=xs'→Does P N Γ o a w .top T (H.set id (.cells xs')):=by
     intro xs' hl h1 h2;refine store_run hT hW hI ho hi hx hv hl hr h1 h2 (n := .cells xs') rfl ?_ ?_;intro ys hys b k cs ty w' g1 g2 g3 g4;simp [O.row] at hys;subst hys;subst g2;exact okO.ofL g1 g3 g4;exact fun _ _ _=>rfl
    split at he
    ·simp at he;obtain ⟨rfl,rfl,rfl,rfl⟩:=he;have h1:=hp (vs.length=i.size) (by simp);have:=hp (StoreOk xs off vs _) (Zz _ (Zq.2 rfl));exact fin h1 this.1 this.2
    ·split at he
     ·rename_i hl;split at he
      ·rename_i hle;simp at he hle hl;obtain ⟨rfl,rfl,rfl,rfl⟩:=he;exact fin hl (by omega) rfl
      ·simp at he
     ·simp at he
  ·rename_i xs ns zs vs hH hv;have hr:rowAt H id=some (vecV xs ns zs):=by simp [rowAt,hH,O.row]
   have fin:∀{xs':List V} {ns':List Int},vs.length=i.size→off+vs.length≤(vecV xs ns zs).length→putAt (vecV xs ns zs) off vs=vecV xs' ns' zs→Does P N Γ o a w .top T (H.set id (.vec xs' ns' zs)):=by
    intro xs' ns' hl h1 h2;refine store_run hT hW hI ho hi hx hv hl hr h1 h2 (n := .vec xs' ns' zs) rfl ?_ ?_
    ·intro ys hys b k cs ty w' g1 g2 g3 g4;simp only [O.row,Zf] at hys;subst hys;subst g2;exact okO.ofL g1 g3 g4
    ·exact fun _ _ _=>rfl
   split at he
   ·simp only [Zf,Ze] at he;obtain ⟨rfl,rfl,rfl,rfl⟩:=he;have h1:=hp (vs.length=i.size) (by simp);have:=hp (StoreOk (vecV xs ns zs) off vs _) (Zz _ (Zq.2 rfl));exact fin h1 this.1 this.2
   ·split at he
    ·rename_i hl;split at he
     ·rename_i hle;simp only [Zf,Ze] at he;simp at hle hl;obtain ⟨rfl,rfl,rfl,rfl⟩:=he;refine fin hl (by simp;omega) ?_;rw [putAt_eq _ _ _ (by simp;omega),putAt_eq _ _ _ (by omega)];simp only [vecV,Yi];rw [Ya (by omega),Yf (by omega)]
     ·simp at he
    ·simp at he
  ·rename_i ds vs hH hv;have hr:rowAt H id=some (ds.map .d):=by simp [rowAt,hH,O.row]
   split at he
   ·rename_i hl;simp at hl;split at he
    ·rename_i ds';simp at he;obtain ⟨rfl,rfl,rfl,rfl⟩:=he;have:=hp _ (Zq.2 rfl);refine store_run hT hW hI ho hi hx hv hl hr this.1 this.2 (n := .data ds') rfl ?_ ?_;intro ys hys b k cs ty w' g1 g2 g3 g4;simp [O.row] at hys;subst hys;subst g2;have g3':=g3;rw [Zg] at g3';exact okO.ofD g1 g3'.toD (by simpa using g4);exact fun xs hxs h=>by rw [hH] at hxs;simp at hxs;subst hxs;simp [O.isData] at h
    ·simp at he
   ·simp at he
  ·rename_i ds vs hH hv;have hr:rowAt H id=some (ds.map .d):=by simp [rowAt,hH,O.row]
   split at he
   ·rename_i hl;simp at hl;split at he
    ·rename_i ds';simp at he;obtain ⟨rfl,rfl,rfl,rfl⟩:=he;have:=hp _ (Zq.2 rfl);refine store_run hT hW hI ho hi hx hv hl hr this.1 this.2 (n := .fixed ds') rfl ?_ ?_;intro ys hys b k cs ty w' g1 g2 g3 g4;simp [O.row] at hys;subst hys;subst g2;have g3':=g3;rw [Zg] at g3';exact okO.ofF g1 g3'.toD (by simpa using g4);exact fun xs hxs h=>rfl
    ·simp at he
   ·simp at he
  ·simp at he
 ·simp at he
end sound
end Go.Sx
end
section
namespace Go.Sx
open Go
set_option linter.unusedSimpArgs false
set_option linter.unusedVariables false
theorem flatten_replicate_get {α:Type} (l:List α):∀(m j:Nat),((List.replicate m l).flatten)[j]? = if j<m*l.length then l[j % l.length]? else none:=by
 intro m;induction m with
 | zero=>intro j;simp
 | succ m ih =>
  intro j;rw [List.replicate_succ,List.flatten_cons,ZA];split
  ·rename_i h;rw [if_pos (by rw [ZU];omega),Nat.mod_eq_of_lt h]
  ·rename_i h;rw [ih,Nat.mod_eq_sub_mod (Nat.le_of_not_lt h)];have:(j-l.length<m*l.length)↔(j<(m+1)*l.length):=by rw [ZU];omega
   simp only [this]
theorem wrap_in {n:Int} (h0:0≤n) (h1:n≤9223372036854775807):IntKind.i64.wrap n=n:=by
 have e:(2:Int)^IntKind.i64.bits=18446744073709551616:=by decide
 have e2:(2:Int)^(IntKind.i64.bits-1)=9223372036854775808:=by decide
 have es:IntKind.i64.signed=true:=rfl;simp only [IntKind.wrap,e,e2,es,Bool.true_and,decide_eq_true_eq];rw [Int.emod_eq_of_lt h0 (by omega)];rw [if_neg (by omega)]
section sound
variable {P:Program} {tt:Tab} {bs:Bs} {Z:Nat→Prop} {w:World} {o:Oper} {a:Act} {v:V} {ps:List Prop} {N:Nat} {Γ:Ctx} {T T':St} {H H':List O}
variable (hT:Tab.ok P tt)
include hT
theorem make_sound (hW:InvW Γ H bs Z w) (hI:InvT N Γ T bs Z a w) {t:TypeId} {x y:Operand} {i:TI} {h:Hint} (ho:o.op = .makeSlice t x y) (hi:tt.lookup t=some i)
 (he:evMake tt i h T H (getV T x) (getV T y)=some (v,T',H',ps)) (hp:∀p∈ps,p):Does P N Γ o a w v T' H':=by
 have hX:=getV_sound hI x;have hY:=getV_sound hI y;generalize getV T x=vx at he hX;generalize getV T y=vy at he hY;unfold evMake at he;split at he
 ·rename_i n m;have ex:=hX.lit;have ey:=hY.lit;split at he
  ·rename_i el kk ds hk;simp only [Zi] at he;obtain ⟨it,h1,h2⟩:=he;simp at h2;obtain ⟨rfl,rfl,rfl,rfl⟩:=h2;obtain ⟨rfl,rfl,h0,hb,hm,hds⟩:=hp _ (Zq.2 rfl);obtain ⟨z,hz1,hz2⟩:=run_zero hT h1 w;obtain ⟨info,z',g1,g2,g3,g4,g5⟩:=(hT el it h1).info;have hzl:=(hT el it h1).zlen;have hw1:=wrap_in h0 hm;have hbz:(it.bytes:Int)*n≤281474976710656:=by rw [Int.mul_comm];omega

   have hrow:∃cs:Array Value,(Instr.makeSlice t (.int .i64 n) (.int .i64 n)).run P w = .ok (.slice (some ⟨w.heap.size,0,none⟩) n.toNat n.toNat) (w.alloc (.cells cs el))∧cs.size=n.toNat*it.size ∧
    RDL Z w ds cs.toList:=by
    have hti:∀w,(typeInfo el).run P w = .ok info w:=fun w=>by simp [typeInfo,g1]
    have hnot:(decide (n<0)||decide ((info.bytes:Int)*n>2^48))=false:=by
     have:¬n<0:=by omega
     have h3:¬((info.bytes:Int)*n>2^48):=by rw [g3];omega
     simp only [this,h3,decide_false,Bool.or_self]
    refine ⟨(Array.range (n.toNat*it.size)).map ((if n.toNat*it.size=0 then #[] else z.cells)[· % (if n.toNat*it.size=0 then #[] else z.cells).size]!),?_,by simp,?_⟩
    ·simp only [Instr.makeSlice,Zy,kind_slice hT hi hk,Zm,asInt,asIntOf,ZJ,hti,hw1,hnot];have h4:¬(n<0):=by omega
     simp only [h4,decide_false,Bool.false_or,gt_iff_lt,Int.lt_irrefl,Zk,if_false,run_askRoom,Zm,Zy,run_size hT h1,ZJ];by_cases h5:n.toNat*it.size=0
     ·simp only [h5,if_true,ZJ,Zm,newRow,Zy,run_newObj];rfl
     ·simp only [h5,if_false,Zy,hz1,ZJ,Zm,newRow,run_newObj];rfl
    ·rw [hds];refine ⟨?_,fun j x c hx hc=>?_⟩
     ·simp [List.length_flatten,hzl]
     ·rw [flatten_replicate_get] at hx;simp only [Zg,hzl] at hx;split at hx
      ·rename_i hj;have h5:n.toNat*it.size≠0:=by omega
       simp only [h5,if_false] at hc;rw [Zj] at hx;have hzs:z.cells.size=it.size:=by rw [←hzl,←hz2];simp
       have hmod:j % it.size<it.size:=Nat.mod_lt _ (by
        rcases Yc it.size with h6|h6
        ·simp [h6] at hj
        ·exact h6)
       have hz0:it.zero[j % it.size]? = some (z.cells[j % it.size]'(by omega)):=by
        rw [←hz2];simp [hzs,hmod]
       rw [hz0] at hx;simp at hx;simp [hj,hzs,hmod] at hc;subst hx;have hone:=(hT el it h1).ones _ (ZG hz0);rw [hc] at hone ⊢;exact ⟨hone,.v _ hone⟩
      ·simp at hx
   obtain ⟨cs,hr,hs,hR⟩:=hrow;have hl:ds.length=cs.size:=by have:=hR.1;simp at this;omega
   obtain ⟨k1,k2⟩:=new_data hW hI (a:=a) (T:=T) (ds:=ds) (cs:=cs) el (by rw [ZH (by simp;omega)];exact hR) (by omega);refine Does.val (c := .slice (some ⟨w.heap.size,0,none⟩) n.toNat n.toNat) ?_ k1 k2 (.sl it.size _ 0 _ _ _ n.toNat (bs_last hW _) (Zx _) (by omega) (by omega));simp only [execOp,ho,ex,ey,Zy,hr,Zm,ZJ]
  ·simp at he
 ·simp at he
omit hT in
theorem okO.only {bs bs':Bs} {n:O} {q:Option (Nat×Nat)} (p:Nat→Bool) (h:okO bs Z w n q) (hb:∀(i:Nat) (o:Option (Nat×Nat)),p i=true→bs[i]? = some o→bs'[i]? = some o):okO bs' Z w (n.only p) q:=by
 cases n with
 | cells xs =>
  cases q with
  | none=>simp [okO] at h;subst h;rfl
  | some q =>
   obtain ⟨b,k⟩:=q;obtain ⟨cs,t,h1,h2,h3,h4⟩:=h;simp only [O.only,onlyL_eq];refine ⟨cs,t,h1,h2,by simpa using h3,fun j x hx=>?_⟩;rw [Zj,Zc] at hx;obtain ⟨y,hy,rfl⟩:=hx;obtain ⟨c,hc,h5,h6⟩:=h4 j y hy;exact ⟨c,hc,h5,h6.only p hb⟩
 | vec ys ns ts =>
  have hv:vecV (V.onlyL p ys) ns (V.onlyL p ts)=(vecV ys ns ts).map (V.only p):=by simp [vecV,tailV_eq,onlyL_eq,V.only]
  cases q with
  | none=>simp only [okO] at h;simp only [O.only,okO,hv,h,List.map_nil]
  | some q =>
   obtain ⟨b,k⟩:=q;obtain ⟨cs,t,h1,h2,h3,h4⟩:=h;simp only [O.only,okO,hv];refine ⟨cs,t,h1,h2,by simpa using h3,fun j x hx=>?_⟩;rw [Zj,Zc] at hx;obtain ⟨y,hy,rfl⟩:=hx;obtain ⟨c,hc,h5,h6⟩:=h4 j y hy;exact ⟨c,hc,h5,h6.only p hb⟩
 | bld st =>
  match st,h with
  | none,_=>cases q<;>trivial
  | some none,h=>cases q<;>exact h
  | some (some (l,j)),h =>
   simp only [O.only];split
   ·rename_i hj;cases q with
    | none=>exact h.elim
    | some q =>
     obtain ⟨b,k⟩:=q;obtain ⟨g,cap,h1,h2,h3,h4⟩:=h;exact ⟨g,cap,hb j _ hj h1,h2,h3,h4⟩
   ·cases q<;>trivial
 | bldr l=>cases q<;>exact h
 | data ds=>simp only [O.only];cases q<;>exact h
 | fixed ds=>simp only [O.only];cases q<;>exact h
 | map kvs=>simp only [O.only];cases q<;>exact h
 | loop st ps as bd N T =>
  cases q with
  | none=>exact h
  | some q =>
   obtain ⟨b,k⟩:=q;obtain ⟨r,h1,h2,h3,h4,h5,h6,h7⟩:=h;refine ⟨r,h1,h2,h3,h4,h5,h6,fun i x hx=>?_⟩;simp only [ZX] at hx;obtain ⟨⟨j,y⟩,hy,he⟩:=hx;simp at he;obtain ⟨rfl,rfl⟩:=he;exact ⟨(h7 j y hy).1,(h7 j y hy).2.only p hb⟩
omit hT in
theorem InvT.only {bs bs':Bs} (p:Nat→Bool) (h:InvT N Γ T bs Z a w) (hb:∀(i:Nat) (o:Option (Nat×Nat)),p i=true→bs[i]? = some o→bs'[i]? = some o):InvT N Γ (onlyT p T) bs' Z a w:=by
 refine ⟨h.size,h.defers,fun i x hx=>?_⟩;simp only [onlyT,ZX] at hx;obtain ⟨⟨j,y⟩,hy,he⟩:=hx;simp at he;obtain ⟨rfl,rfl⟩:=he;exact ⟨(h.rel j y hy).1,(h.rel j y hy).2.only p hb⟩
omit hT in
theorem only_isData (p:Nat→Bool) (o:O):(o.only p).isData=o.isData:=by
 match o with
 | .bld none | .bld (some none)=>rfl
 | .bld (some (some (l,j)))=>simp only [O.only];split<;>rfl
 | .cells _ | .data _ | .fixed _ | .map _ | .loop .. | .vec .. | .bldr _=>rfl
omit hT in
theorem InvW.only (p':Nat→Bool) (h:InvW Γ H bs Z w):InvW Γ (onlyH p' H) bs Z w where
 lenH:=by simp [onlyH,h.lenH]
 objs i o b ho hb:=by
  simp only [onlyH,Zj,Zc] at ho;obtain ⟨n,hn,rfl⟩:=ho;exact (h.objs i n b hn hb).only p' (fun _ _ _ h=>h)
 nodup:=h.nodup
 disj:=h.disj
 lt:=h.lt
 zlt:=h.zlt
 z0:=h.z0
 fresh:=h.fresh
 zfresh:=h.zfresh
 size:=h.size
 frame:=h.frame
 os:=h.os
 tape:=h.tape
 output:=h.output
 pin i p hp:=by
  obtain ⟨h1,o,h2,h3⟩:=h.pin i p hp;exact ⟨h1,o.only p',by simp only [onlyH,Zj,h2,Zo],by rw [only_isData];exact h3⟩
omit hT in
theorem InvW.move (hW:InvW Γ H bs Z w) {id:Nat} (hid:id<bs.length) (ob:Obj) (n:O) (k:Nat)
 (hn:okO (bs.set id (some (w.heap.size,k))) Z (w.drew.alloc ob) n (some (w.heap.size,k))) (hnc:∀o,H[id]? = some o→o.isData=true) :
 InvW Γ ((onlyH (· != id) H).set id n) (bs.set id (some (w.heap.size,k))) Z (w.drew.alloc ob):=by
 have hold:∀b,b<w.heap.size→(w.drew.alloc ob).heap[b]? = w.heap[b]? := fun b hb=>(Grow.alloc Z w.drew ob).heap b hb;have hsz:(w.drew.alloc ob).heap.size=w.heap.size+1:=by simp
 have hcase:∀(i:Nat) (b k':Nat),(bs.set id (some (w.heap.size,k)))[i]? = some (some (b,k'))→(i≠id∧bs[i]? = some (some (b,k')))∨(i=id∧b=w.heap.size):=by
  intro i b k' h;rw [Zn] at h;split at h
  ·rename_i e;subst e;simp at h;exact .inr ⟨rfl,h.1.symm⟩
  ·rename_i e;exact .inl ⟨fun e'=>e e'.symm,h⟩
 constructor
 ·simp [onlyH,hW.lenH]
 ·intro i o' q ho hq;rw [Zn] at ho hq;split at ho
  ·rename_i e;subst e;rw [if_pos rfl,if_pos hid] at hq;split at ho<;>simp at ho hq;subst ho;subst hq;exact hn
  ·rename_i e;rw [if_neg e] at hq;simp only [onlyH,Zj,Zc] at ho;obtain ⟨n',hn',rfl⟩:=ho
   have h1:=(hW.objs i n' q hn' hq).only (bs':=bs.set id (some (w.heap.size,k))) (· != id) (fun j o hj hb=>by
    rw [Zn,if_neg (by intro e';subst e';simp at hj)];exact hb)
   exact h1.mono (fun _ _ h=>h) (fun _ h=>h) (fun b hb=>hold b (hW.zlt b hb)) (fun g g' hg=>hold g (hW.lt i g g' (hg▸hq)))
 ·intro i j b k1 k2 hi hj;rcases hcase i b k1 hi with ⟨_,h1⟩|⟨h1,h1'⟩<;>rcases hcase j b k2 hj with ⟨_,h2⟩|⟨h2,h2'⟩
  ·exact hW.nodup i j b k1 k2 h1 h2
  ·have:=hW.lt i b k1 h1;omega
  ·have:=hW.lt j b k2 h2;omega
  ·omega
 ·intro i b k1 hi hz;rcases hcase i b k1 hi with ⟨_,h1⟩|⟨h1,h1'⟩
  ·exact hW.disj i b k1 h1 hz
  ·have:=hW.zlt b hz;omega
 ·intro i b k1 hi;rcases hcase i b k1 hi with ⟨_,h1⟩|⟨h1,h1'⟩
  ·have:=hW.lt i b k1 h1;omega
  ·omega
 ·intro b hb;have:=hW.zlt b hb;omega
 ·exact hW.z0
 ·intro i b k1 hi;rcases hcase i b k1 hi with ⟨_,h1⟩|⟨h1,h1'⟩
  ·exact hW.fresh i b k1 h1
  ·have:=hW.size;left;omega
 ·exact hW.zfresh
 ·have:=hW.size;omega
 ·intro b hb hn';rw [hold b (by have:=hW.size;omega)];exact hW.frame b hb hn'
 ·exact hW.os
 ·exact hW.tape
 ·exact hW.output
 ·intro i p hp;obtain ⟨h1,o,h2,h3⟩:=hW.pin i p hp;have hne:id≠i:=fun e=>by rw [hnc o (e▸h2)] at h3;simp at h3
  exact ⟨by rw [Zn,if_neg hne];exact h1,o.only (· != id),by rw [Zn,if_neg hne];simp only [onlyH,Zj,h2,Zo],by rw [only_isData];exact h3⟩
omit hT in
theorem bs_set_keep {bs:Bs} {id:Nat} {q:Option (Nat×Nat)} (i:Nat) (o:Option (Nat×Nat)) (hi:(i != id)=true) (h:bs[i]? = some o):(bs.set id q)[i]? = some o:=by
 rw [Zn,if_neg (by intro e;subst e;simp at hi)];exact h
omit hT in
theorem RDL.ones {ds:List D} {cs:List Value} (h:RDL Z w ds cs):∀c∈cs,c.oneCell'=true:=RVL.ones (h.toV (bs:=[]))
omit hT in
theorem run_append_room' (w:World) (t ty e:TypeId) (i:TypeInfo) (ht:P.underlying t=some (.slice e)) (hi:P.info? e=some i)
 (g sLen sCap:Nat) (cur:Array Value) (te:TypeId) (hg:w.heap[g]? = some (.cells cur te (0,0)))
 (a:Addr) (m c:Nat) (news:List Value) (hl:news.length=m*i.size) (hnews:∀(j:Nat) u,news[j]? = some u→w.cell? (a.add j)=some u) (h1:∀u∈news,u.oneCell'=true)
 (hroom:sLen+m≤sCap) (hfit:sLen*i.size+news.length≤cur.size) :
 (Builtin.append_ #[t,t] ty #[.slice (some ⟨g,0,none⟩) sLen sCap,.slice (some a) m c]).run P w =
  .ok (.slice (some ⟨g,0,none⟩) (sLen+m) sCap) (w.setRow g (cur.toList.take (sLen*i.size)++news++cur.toList.drop (sLen*i.size+news.length)).toArray):=by
 have hf:=run_firstCells_some (P:=P) w i.size m a m c news hl hnews;have hst:=run_storeCells_at P g (sLen*i.size) te news 0 cur w hg (by simpa using hfit) h1;simp only [Yp] at hst;simp [Builtin.append_,run_underlying ht,sizeOf,typeInfo,hi,Builtin.lenOf,hroom,hf,addr_add,hst]
theorem append_sound (hW:InvW Γ H bs Z w) (hI:InvT N Γ T bs Z a w) {c:Call} {s x:Operand} {t t':TypeId} {i:TI} {h:Hint} (ho:o.op = .call c) (hc:c.callee = .builtin .append) (ha:c.args.toList=[s,x])
 (hty:c.argTypes.toList=[t,t']) (htt:t=t') (hi:tt.lookup t=some i) (he:evAppend tt i h T H (getV T s) (getV T x)=some (v,T',H',ps)) (hp:∀p∈ps,p):Does P N Γ o a w v T' H':=by
 subst htt;have hS:=getV_sound hI s;have hX:=getV_sound hI x;generalize getV T s=vs at he hS;generalize getV T x=vx at he hX;obtain ⟨callee,⟨args⟩,⟨tys⟩⟩:=c;simp at ha hty hc;subst ha;subst hty;subst hc
 have hexec:∀(r:Value) (w':World),(Builtin.append_ #[t,t] o.type #[a.eval s,a.eval x]).run P w = .ok r w'→(execOp a.eval o).run P w = .ok (.value r) w':=by
  intro r w' h1;simp [execOp,ho,resolve,invoke,builtin,h1]
 unfold evAppend at he;split at he
 ·rename_i e id n;split at he
  ·rename_i el kq out xs m src hk hr hsrc;obtain ⟨hr,hnc⟩:=dataAt_row hr
   have honc:∀o,(onlyH (· != id) H)[id]? = some o→o.isData=true:=by
    intro o hy;simp only [onlyH,Zj,Zc] at hy;obtain ⟨q,hq,rfl⟩:=hy;rw [only_isData];exact hnc _ hq
   simp only [Zi] at he;obtain ⟨it,h1,h2⟩:=he;split at h2
   ·rename_i hcond;simp at hcond;obtain ⟨hse,he0⟩:=hcond;simp at h2;obtain ⟨rfl,rfl,rfl,rfl⟩:=h2;obtain ⟨rfl,hxl,hsl,hby,hmx,hout⟩:=hp _ (Zq.2 rfl);obtain ⟨d,hu,hd2,_⟩:=(hT t i hi).kind;rw [hk] at hd2;cases hd2;obtain ⟨info,z',g1,g2,g3,g4,g5⟩:=(hT el it h1).info;have hzl:=(hT el it h1).zlen;have hzs:z'.cells.size=e:=by rw [←hse,←hzl,←g5];simp
    have his:info.size=e:=by rw [g2,hse]
    have houtl:out.length=(n+m)*e:=by
     have:=congrArg List.length hout;simp [hxl,hsl] at this;rw [this,ZU]
    have hrun0:=hexec

    have stay:∀{b k:Nat} {cap:Nat} {w':World} {cs':Array Value} {ty:TypeId},bs[id]? = some (some (b,k))→n+m≤cap→cap*e≤k→cap≤9223372036854775807 →
     (execOp a.eval o).run P w = .ok (.value (.slice (some ⟨b,0,none⟩) (n+m) cap)) w'→(∀b',b'≠b→w'.heap[b']? = w.heap[b']?)→w'.heap.size=w.heap.size→w'.os=w.os→w'.tape=w.tape→w'.output=w.output →
     w'.heap[b]? = some (.cells cs' ty (0,0))→cs'.size=k→RDL Z w out (cs'.toList.take out.length) →
     Does P N Γ o a w (.sl e id 0 (n+m)) (onlyT (· != id) T) ((onlyH (· != id) H).set id (.data out)):=by
     intro b k cap w' cs' ty hb hcap hk hm' hrun hoth hsz e1 e2 e3 hbw hks hR;have hz:∀b',Z b'→w'.heap[b']? = w.heap[b']? := fun b' hb'=>hoth b' (fun e=>by subst e;exact hW.disj id b' k hb hb');refine Does.val hrun ((hW.only (· != id)).write hb hoth hsz e1 e2 e3 ?_ (fun ys hys h=>by rw [honc ys hys] at h;simp at h)) ((hI.mono (fun _ _ h=>h) (fun _ h=>h) hz).only (· != id) (fun _ _ _ h=>h)) (.sl e id 0 _ b k cap hb hcap (by omega) hm');subst hks;refine okO.ofD hbw ⟨hR.1,fun j x c hx hc=>⟨(hR.2 j x c hx hc).1,(hR.2 j x c hx hc).2.mono (fun _ h=>h) hz⟩⟩ ?_;rw [houtl];exact Z3 (ZQ _ hcap) hk
    have goes:∀(cs:List Value) (cap:Nat),id<bs.length→n+m≤cap→cap≤9223372036854775807→RDL Z w out (cs.take out.length)→cs.length=cap*e →
     (execOp a.eval o).run P w = .ok (.value (.slice (some ⟨w.heap.size,0,none⟩) (n+m) cap)) (w.drew.alloc (.cells cs.toArray el)) →
     Does P N Γ o a w (.sl e id 0 (n+m)) (onlyT (· != id) T) ((onlyH (· != id) H).set id (.data out)):=by
     intro cs cap hid hcap hm' hR hcs hrun;have hold:∀b,Z b→(w.drew.alloc (.cells cs.toArray el)).heap[b]? = w.heap[b]? := fun b hb=>(Grow.alloc Z w.drew _).heap b (hW.zlt b hb);have hnew:(bs.set id (some (w.heap.size,cs.length)))[id]? = some (some (w.heap.size,cs.length)):=by rw [Zn,if_pos rfl,if_pos hid]
     have hle:out.length≤cs.length:=by rw [houtl,hcs];exact ZQ _ hcap
     have hok:okO (bs.set id (some (w.heap.size,cs.length))) Z (w.drew.alloc (.cells cs.toArray el)) (.data out) (some (w.heap.size,cs.length)):=by
      have:=okO.ofD (bs:=bs.set id (some (w.heap.size,cs.length))) (Z:=Z) (w:=w.drew.alloc (.cells cs.toArray el)) (ds:=out) (cs:=cs.toArray) (t:=el) (b:=w.heap.size) (heap_alloc w.drew _)
       ⟨by simpa using hR.1,fun j x c hx hc=>by
        have:=hR.2 j x c hx (by simpa using hc)
        exact ⟨this.1,this.2.mono (fun _ h=>h) hold⟩⟩ (by simpa using hle)
      simpa using this
     refine Does.val hrun (hW.move hid _ _ _ hok hnc) ((hI.only (· != id) (fun i o hi hb=>bs_set_keep i o hi hb)).mono (fun _ _ h=>h) (fun _ h=>h) hold) (.sl e id 0 _ _ _ cap hnew hcap (by omega) hm')
    generalize hes:a.eval s=sv at hS hexec;generalize hex:a.eval x=xv at hX hexec
    have hid:id<bs.length:=by
     cases hS with
     | sl _ _ _ _ b k cap hb=>exact (Zb.1 hb).1
     | sl0 _ _ hb=>exact (Zb.1 hb).1
    rcases src_sound hX hsrc hsl with ⟨rfl,rfl,ad,kk,rfl⟩|⟨ad,kk,srcC,rfl,hm0,hnews,hR⟩
    ·
     have hout':out.map .d=xs:=by simpa using hout
     cases hS with
     | sl0 _ _ hb =>
      have hxs:=hW.row0 hr hb;have hout0:out=[]:=by rw [hxs] at hout';simpa using hout'
      have hrun:=hexec _ _ (run_append_none w t o.type el info hu g1 none 0 0 ad kk (Zx _));subst hout0;refine Does.val hrun ?_ (hI.only (· != id) (fun _ _ _ h=>h)) (.sl0 e id hb);have h5:=hW.only (· != id);constructor
      ·simp [h5.lenH]
      ·intro i o' q hi hq;rw [Zn] at hi;split at hi
       ·rename_i e';subst e';split at hi<;>simp at hi;subst hi;rw [hb] at hq;simp at hq;subst hq;rfl
       ·exact h5.objs i o' q hi hq
      ·exact h5.nodup
      ·exact h5.disj
      ·exact h5.lt
      ·exact h5.zlt
      ·exact h5.z0
      ·exact h5.fresh
      ·exact h5.zfresh
      ·exact h5.size
      ·exact h5.frame
      ·exact h5.os
      ·exact h5.tape
      ·exact h5.output
      ·intro i p hp;obtain ⟨h1,ys,h2,h3⟩:=h5.pin i p hp;refine ⟨h1,ys,?_,h3⟩;rw [Zn,if_neg (fun e=>by rw [honc ys (e▸h2)] at h3;simp at h3)];exact h2
     | sl _ _ _ _ b k cap hb hcap hkk hmm =>
      obtain ⟨cs,ty,q1,q2,q3,q4⟩:=hW.row hr hb;have hrun:=hexec _ _ (run_append_none w t o.type el info hu g1 (some ⟨b,0,none⟩) n cap ad kk hcap);refine stay hb (by omega) (by omega) hmm hrun (fun _ _=>rfl) rfl rfl rfl rfl q1 q3 ?_;have:xs.length=out.length:=by rw [←hout'];simp
      rw [this] at q4;exact RDL.ofMap q4 hout'
    ·have hsC:srcC.length=m*info.size:=by rw [hR.1,hsl,his]
     have hRV:=hR.toV (bs:=bs)
     have htake:∀(ys zs:List Value),RVL bs Z w xs ys→RDL Z w out ((ys++srcC++zs).take out.length):=by
      intro ys zs hy;have h6:=RVL.append hy hRV
      have hlen:(ys++srcC).length=out.length:=by
       rw [ZE,hy.1,hR.1,hxl,hsl,houtl,ZU]
      rw [←hlen,List.take_left']
      ·exact RDL.ofMap h6 hout
      ·rfl
     have hzlen:∀q,(Builtin.zeroCells z'.cells q).toList.length=q*e:=fun q=>by simp [Builtin.zeroCells,hzs]
     cases hS with
     | sl0 _ _ hb =>
      have hxs:=hW.row0 hr hb;subst hxs;have hrun:=run_append_nil (P:=P) w t o.type el info z' hu g1 g4 ad m kk srcC hsC hnews hm0 (by omega) (by rw [g3];rw [Zw] at hby;omega);have hrun:=hexec _ _ hrun;have hcap:=grownCap_ge w m 0 el;have hmx':=grownCap_le_maxLen w m 0 el (by simp only [maxLen];omega);have e4:(srcC.toArray++Builtin.zeroCells z'.cells (grownCap w m 0 el-m))=(([]++srcC++(Builtin.zeroCells z'.cells (grownCap w m 0 el-m)).toList:List Value)).toArray:=by simp
      rw [e4] at hrun;refine goes ([]++srcC++(Builtin.zeroCells z'.cells (grownCap w m 0 el-m)).toList) (grownCap w m 0 el) hid (by omega) (by simpa only [maxLen] using hmx') (htake [] _ RVL.nil) ?_ (by simpa using hrun);rw [ZE,List.nil_append,hsC,his,hzlen,←ZU];congr 1;omega
     | sl _ _ _ _ b k cap hb hcap hkk hmm =>
      obtain ⟨cs,ty,q1,q2,q3,q4⟩:=hW.row hr hb;by_cases hroom:n+m≤cap
      ·have hfit:n*info.size+srcC.length≤cs.size:=by
        rw [hsC,his,←ZU,q3];exact Z3 (ZQ _ hroom) (by omega)
       have hrun:=hexec _ _ (run_append_room' w t o.type el info hu g1 b n cap cs ty q1 ad m kk srcC hsC hnews hR.ones hroom hfit);refine stay hb hroom (by omega) hmm hrun (fun b' hne=>setRow_other w b b' _ hne) (setRow_size _ _ _) rfl rfl rfl (setRow_heap w b cs _ ty _ q1) ?_ ?_
       ·simp only [List.size_toArray,ZE,ZS,Z8,YC];omega
       ·rw [List.toList_toArray];refine htake _ _ ?_;rw [his,←hxl];exact q4
      ·have hold:∀(j:Nat) u,(cs.toList.take xs.length)[j]? = some u→w.cell? ((⟨b,0,none⟩:Addr).add j)=some u:=by
        intro j u hu';rw [cell_at q1];rw [Zr] at hu';split at hu'
        ·simpa using hu'
        ·simp at hu'
       have hrun:=run_append_grow (P:=P) w t o.type el info z' hu g1 g4 ⟨b,0,none⟩ n cap (cs.toList.take xs.length) (by rw [q4.1,hxl,his]) hold ad m kk srcC hsC hnews (by omega) (by omega)
        (growslice_fits (by omega) (by rw [g3];exact hby))
       have hrun:=hexec _ _ hrun;have hcap':=grownCap_ge w (n+m) cap el;have hmx':=grownCap_le_maxLen w (n+m) cap el (by simp only [maxLen];omega)
       have e4:((cs.toList.take xs.length).toArray++srcC.toArray++Builtin.zeroCells z'.cells (grownCap w (n+m) cap el-(n+m)))=((cs.toList.take xs.length++srcC++(Builtin.zeroCells z'.cells (grownCap w (n+m) cap el-(n+m))).toList:List Value)).toArray:=by
        apply Array.ext';simp
       rw [e4] at hrun;refine goes _ (grownCap w (n+m) cap el) hid hcap' (by simpa only [maxLen] using hmx') (htake _ _ q4) ?_ hrun;rw [ZE,ZE,q4.1,hxl,hsC,his,hzlen,←ZU,←ZU];congr 1;omega
   ·simp at h2
  ·simp at he
 ·simp at he
omit hT in
theorem arrL (l:List Value) (b:Array Value):l.toArray++b=(l++b.toList).toArray:=by
 apply Array.ext';simp
omit hT in
theorem run_append_room_str (w:World) (t t' ty e:TypeId) (i:TypeInfo) (ht:P.underlying t=some (.slice e)) (ht':P.underlying t'=some .string) (hi:P.info? e=some i)
 (g sLen sCap:Nat) (cur:Array Value) (te:TypeId) (hg:w.heap[g]? = some (.cells cur te (0,0)))
 (s:ByteArray) (m:Nat) (hm:s.size=m) (news:List Value) (hn:byteCells s=news) (hs:i.size=1)
 (hroom:sLen+m≤sCap) (hfit:sLen*i.size+news.length≤cur.size) :
 (Builtin.append_ #[t,t'] ty #[.slice (some ⟨g,0,none⟩) sLen sCap,.string s]).run P w =
  .ok (.slice (some ⟨g,0,none⟩) (sLen+m) sCap) (w.setRow g (cur.toList.take (sLen*i.size)++news++cur.toList.drop (sLen*i.size+news.length)).toArray):=by
 subst hm;subst hn;have hf:=firstCells_string (P:=P) s w;have hst:=run_storeCells_at P g (sLen*i.size) te (byteCells s) 0 cur w hg (by simpa using hfit) (fun u hu=>by obtain ⟨_,_,rfl⟩:=ZX.1 hu;rfl);simp only [Yp] at hst;rw [hs] at hst ⊢;rw [Yw] at hst;simp [Builtin.append_,run_underlying ht,run_underlying ht',sizeOf,typeInfo,hi,hs,Builtin.lenOf,hroom,hf,addr_add,hst]
theorem appendS_sound (hW:InvW Γ H bs Z w) (hI:InvT N Γ T bs Z a w) {c:Call} {s x:Operand} {t t':TypeId} {i:TI} {h:Hint} (ho:o.op = .call c) (hc:c.callee = .builtin .append) (ha:c.args.toList=[s,x])
 (hty:c.argTypes.toList=[t,t']) (hst:strT tt t'=true) (hi:tt.lookup t=some i) (he:evAppendS tt i h T H (getV T s) (getV T x)=some (v,T',H',ps)) (hp:∀p∈ps,p):Does P N Γ o a w v T' H':=by
 obtain ⟨i',hi',hk'⟩:∃i',tt.lookup t'=some i'∧i'.kind = .string:=by
  unfold strT at hst;split at hst
  ·rename_i h1;rw [Zc] at h1;exact h1
  ·simp at hst
 have hu':P.underlying t'=some .string:=by
  obtain ⟨d,hd1,hd2,_⟩:=(hT t' i' hi').kind;rw [hk'] at hd2;cases hd2;exact hd1
 have hS:=getV_sound hI s;have hX:=getV_sound hI x;generalize getV T s=vs at he hS;generalize getV T x=vx at he hX;obtain ⟨callee,⟨args⟩,⟨tys⟩⟩:=c;simp at ha hty hc;subst ha;subst hty;subst hc
 have hexec:∀(r:Value) (w':World),(Builtin.append_ #[t,t'] o.type #[a.eval s,a.eval x]).run P w = .ok r w'→(execOp a.eval o).run P w = .ok (.value r) w':=by
  intro r w' h1;simp [execOp,ho,resolve,invoke,builtin,h1]
 unfold evAppendS at he;split at he
 ·rename_i e id n s0;split at he
  ·rename_i el kq out xs hk hr;obtain ⟨hr,hnc⟩:=dataAt_row hr
   have honc:∀o,(onlyH (· != id) H)[id]? = some o→o.isData=true:=by
    intro o hy;simp only [onlyH,Zj,Zc] at hy;obtain ⟨q,hq,rfl⟩:=hy;rw [only_isData];exact hnc _ hq
   simp only [Zi] at he;obtain ⟨it,h1,h2⟩:=he;split at h2
   ·rename_i hcond;simp at hcond;obtain ⟨hse,he1⟩:=hcond;simp at h2;obtain ⟨rfl,rfl,rfl,rfl⟩:=h2;obtain ⟨⟨rfl,hxl,hsl,hby,hmx,hout⟩,hs0⟩:=hp _ (Zq.2 rfl);generalize hm:s0.size=m at *;generalize hsrcD:byteD s0=src at *;obtain ⟨d,hu,hd2,_⟩:=(hT t i hi).kind;rw [hk] at hd2;cases hd2;obtain ⟨info,z',g1,g2,g3,g4,g5⟩:=(hT el it h1).info;have hzl:=(hT el it h1).zlen;have hzs:z'.cells.size=e:=by rw [←hse,←hzl,←g5];simp
    have his:info.size=e:=by rw [g2,hse]
    have houtl:out.length=(n+m)*e:=by
     have:=congrArg List.length hout;simp [hxl,hsl] at this;rw [this,ZU]
    have hrun0:=hexec

    have stay:∀{b k:Nat} {cap:Nat} {w':World} {cs':Array Value} {ty:TypeId},bs[id]? = some (some (b,k))→n+m≤cap→cap*e≤k→cap≤9223372036854775807 →
     (execOp a.eval o).run P w = .ok (.value (.slice (some ⟨b,0,none⟩) (n+m) cap)) w'→(∀b',b'≠b→w'.heap[b']? = w.heap[b']?)→w'.heap.size=w.heap.size→w'.os=w.os→w'.tape=w.tape→w'.output=w.output →
     w'.heap[b]? = some (.cells cs' ty (0,0))→cs'.size=k→RDL Z w out (cs'.toList.take out.length) →
     Does P N Γ o a w (.sl e id 0 (n+m)) (onlyT (· != id) T) ((onlyH (· != id) H).set id (.data out)):=by
     intro b k cap w' cs' ty hb hcap hk hm' hrun hoth hsz e1 e2 e3 hbw hks hR;have hz:∀b',Z b'→w'.heap[b']? = w.heap[b']? := fun b' hb'=>hoth b' (fun e=>by subst e;exact hW.disj id b' k hb hb');refine Does.val hrun ((hW.only (· != id)).write hb hoth hsz e1 e2 e3 ?_ (fun ys hys h=>by rw [honc ys hys] at h;simp at h)) ((hI.mono (fun _ _ h=>h) (fun _ h=>h) hz).only (· != id) (fun _ _ _ h=>h)) (.sl e id 0 _ b k cap hb hcap (by omega) hm');subst hks;refine okO.ofD hbw ⟨hR.1,fun j x c hx hc=>⟨(hR.2 j x c hx hc).1,(hR.2 j x c hx hc).2.mono (fun _ h=>h) hz⟩⟩ ?_;rw [houtl];exact Z3 (ZQ _ hcap) hk
    have goes:∀(cs:List Value) (cap:Nat),id<bs.length→n+m≤cap→cap≤9223372036854775807→RDL Z w out (cs.take out.length)→cs.length=cap*e →
     (execOp a.eval o).run P w = .ok (.value (.slice (some ⟨w.heap.size,0,none⟩) (n+m) cap)) (w.drew.alloc (.cells cs.toArray el)) →
     Does P N Γ o a w (.sl e id 0 (n+m)) (onlyT (· != id) T) ((onlyH (· != id) H).set id (.data out)):=by
     intro cs cap hid hcap hm' hR hcs hrun;have hold:∀b,Z b→(w.drew.alloc (.cells cs.toArray el)).heap[b]? = w.heap[b]? := fun b hb=>(Grow.alloc Z w.drew _).heap b (hW.zlt b hb);have hnew:(bs.set id (some (w.heap.size,cs.length)))[id]? = some (some (w.heap.size,cs.length)):=by rw [Zn,if_pos rfl,if_pos hid]
     have hle:out.length≤cs.length:=by rw [houtl,hcs];exact ZQ _ hcap
     have hok:okO (bs.set id (some (w.heap.size,cs.length))) Z (w.drew.alloc (.cells cs.toArray el)) (.data out) (some (w.heap.size,cs.length)):=by
      have:=okO.ofD (bs:=bs.set id (some (w.heap.size,cs.length))) (Z:=Z) (w:=w.drew.alloc (.cells cs.toArray el)) (ds:=out) (cs:=cs.toArray) (t:=el) (b:=w.heap.size) (heap_alloc w.drew _)
       ⟨by simpa using hR.1,fun j x c hx hc=>by
        have:=hR.2 j x c hx (by simpa using hc)
        exact ⟨this.1,this.2.mono (fun _ h=>h) hold⟩⟩ (by simpa using hle)
      simpa using this
     refine Does.val hrun (hW.move hid _ _ _ hok hnc) ((hI.only (· != id) (fun i o hi hb=>bs_set_keep i o hi hb)).mono (fun _ _ h=>h) (fun _ h=>h) hold) (.sl e id 0 _ _ _ cap hnew hcap (by omega) hm')
    generalize hes:a.eval s=sv at hS hexec;generalize hex:a.eval x=xv at hX hexec
    have hid:id<bs.length:=by
     cases hS with
     | sl _ _ _ _ b k cap hb=>exact (Zb.1 hb).1
     | sl0 _ _ hb=>exact (Zb.1 hb).1
    have ex:xv = .string s0:=by have:=hX.lit;exact this
    subst ex
    have hR:RDL Z w src (byteCells s0):=by
     subst hsrcD;refine ⟨by simp [byteCells,byteD],fun j x c hx hc=>?_⟩;simp only [byteD,byteCells,Zj,Zc] at hx hc;obtain ⟨b1,hb1,rfl⟩:=hx;obtain ⟨b2,hb2,rfl⟩:=hc;rw [hb1] at hb2;simp at hb2;subst hb2;exact ⟨rfl,.v _ rfl⟩
    generalize hsrcC:byteCells s0=srcC at *;have hSrc:Src P 1 t' (.string s0) m srcC w:=by rw [←hm,←hsrcC];exact Src.ofString w hu' s0
    have hsC:srcC.length=m*info.size:=by rw [hR.1,hsl,his]
    have hRV:=hR.toV (bs:=bs)
    have htake:∀(ys zs:List Value),RVL bs Z w xs ys→RDL Z w out ((ys++srcC++zs).take out.length):=by
     intro ys zs hy;have h6:=RVL.append hy hRV
     have hlen:(ys++srcC).length=out.length:=by
      rw [ZE,hy.1,hR.1,hxl,hsl,houtl,ZU]
     rw [←hlen,List.take_left']
     ·exact RDL.ofMap h6 hout
     ·rfl
    have hzlen:∀q,(Builtin.zeroCells z'.cells q).toList.length=q*e:=fun q=>by simp [Builtin.zeroCells,hzs]
    cases hS with
    | sl0 _ _ hb =>
     have hxs:=hW.row0 hr hb;subst hxs;have hrun:=run_append_grow_src (P:=P) w t t' o.type el info z' hu g1 g4 none 0 0 [] (run_firstCells_none w.drew _ 0 0 0) (.string s0) m srcC (by rw [his,he1];exact hSrc) (by omega) (by omega) (growslice_fits (by omega) (by rw [g3];exact hby));have hrun:=hexec _ _ hrun;have hcap:=grownCap_ge w m 0 el;have hmx':=grownCap_le_maxLen w m 0 el (by simp only [maxLen];omega);rw [arrL,Zw] at hrun;refine goes ([]++srcC++(Builtin.zeroCells z'.cells (grownCap w m 0 el-m)).toList) (grownCap w m 0 el) hid (by omega) (by simpa only [maxLen] using hmx') (htake [] _ RVL.nil) ?_ (by simpa using hrun);rw [ZE,List.nil_append,hsC,his,hzlen,←ZU];congr 1;omega
    | sl _ _ _ _ b k cap hb hcap hkk hmm =>
     obtain ⟨cs,ty,q1,q2,q3,q4⟩:=hW.row hr hb;by_cases hroom:n+m≤cap
     ·have hfit:n*info.size+srcC.length≤cs.size:=by
       rw [hsC,his,←ZU,q3];exact Z3 (ZQ _ hroom) (by omega)
      have hrun:=hexec _ _ (run_append_room_str w t t' o.type el info hu hu' g1 b n cap cs ty q1 s0 m hm srcC hsrcC (his.trans he1) hroom hfit);refine stay hb hroom (by omega) hmm hrun (fun b' hne=>setRow_other w b b' _ hne) (setRow_size _ _ _) rfl rfl rfl (setRow_heap w b cs _ ty _ q1) ?_ ?_
      ·simp only [List.size_toArray,ZE,ZS,Z8,YC];omega
      ·rw [List.toList_toArray];refine htake _ _ ?_;rw [his,←hxl];exact q4
     ·have hold:∀(j:Nat) u,(cs.toList.take xs.length)[j]? = some u→w.cell? ((⟨b,0,none⟩:Addr).add j)=some u:=by
       intro j u hu';rw [cell_at q1];rw [Zr] at hu';split at hu'
       ·simpa using hu'
       ·simp at hu'
      have hrun:=run_append_grow_src (P:=P) w t t' o.type el info z' hu g1 g4 (some ⟨b,0,none⟩) n cap (cs.toList.take xs.length) (run_firstCells_some w.drew _ n _ n cap _ (by rw [q4.1,hxl,his]) (by simpa using hold)) (.string s0) m srcC (by rw [his,he1];exact hSrc) (by omega) (by omega)
       (growslice_fits (by omega) (by rw [g3];exact hby))
      have hrun:=hexec _ _ hrun;have hcap':=grownCap_ge w (n+m) cap el;have hmx':=grownCap_le_maxLen w (n+m) cap el (by simp only [maxLen];omega);rw [arrL] at hrun;refine goes _ (grownCap w (n+m) cap el) hid hcap' (by simpa only [maxLen] using hmx') (htake _ _ q4) ?_ hrun;rw [ZE,ZE,q4.1,hxl,hsC,his,hzlen,←ZU,←ZU];congr 1;omega
   ·simp at h2
  ·simp at he
 ·simp at he
end sound
end Go.Sx
end
section
namespace Go.Sx
open Go
set_option linter.unusedSimpArgs false
set_option linter.unusedVariables false
section
variable {P:Program} {tt:Tab} {bs:Bs} {Z:Nat→Prop} {w:World} {o:Oper} {a:Act} {v:V} {ps:List Prop} {N:Nat} {Γ:Ctx} {T T':St} {H H':List O}
theorem makeMap_sound (hW:InvW Γ H bs Z w) (hI:InvT N Γ T bs Z a w) {t:TypeId} (ho:o.op = .makeMap t none):Does P N Γ o a w (.mp H.length) T (H++[.map []]):=by
 have hold:∀b,Z b→(w.alloc (.map #[] 0)).heap[b]? = w.heap[b]? := fun b hb=>(Grow.alloc Z w _).heap b (hW.zlt b hb);have h1:=hW.push (.map #[] 0) (.map []) 0 ⟨#[],0,heap_alloc w _,rfl,fun j x h=>by simp at h⟩;have h2:InvT N Γ T (bs++[some (w.heap.size,0)]) Z a (w.alloc (.map #[] 0)):=hI.mono bs_push (fun _ h=>h) hold;refine Does.val (c := .map (some w.heap.size)) ?_ h1 h2 (.mp _ _ 0 (bs_last hW _));simp only [execOp,ho,Instr.makeMap,Option.map_none,Zy,run_newObj,Zm,ZJ];rfl
theorem setD_look {kd vd:D}:∀(kvs kvs':List (D×D)) (i:Nat),setD kd vd kvs=some kvs'→∃r,lookD kd kvs i=some r∧(match r with
 | none=>kvs'=kvs++[(kd,vd)]
 | some q=>i≤q.1∧q.1-i<kvs.length∧kvs'=kvs.set (q.1-i) (kd,vd)):=by
 intro kvs;induction kvs with
 | nil=>intro kvs' i h;simp [setD] at h;subst h;exact ⟨none,rfl,rfl⟩
 | cons p kvs ih =>
  intro kvs' i h;unfold setD at h;split at h
  ·rename_i he;simp at h;subst h;refine ⟨some (i,p.2),by simp [lookD,he],Zx _,by simp,by simp⟩
  ·rename_i he;simp only [Zc] at h;obtain ⟨l,hl,rfl⟩:=h;obtain ⟨r,h1,h2⟩:=ih l (i+1) hl;refine ⟨r,by simp [lookD,he,h1],?_⟩;cases r with
   | none=>simp only at h2 ⊢;rw [h2];rfl
   | some q =>
    obtain ⟨g1,g2,g3⟩:=h2;have e:q.1-i=(q.1-(i+1))+1:=by omega
    refine ⟨by omega,by rw [e];simp;omega,by rw [e,g3];simp⟩
  ·simp at h
theorem mapSet_sound (hT:Tab.ok P tt) (hW:InvW Γ H bs Z w) (hI:InvT N Γ T bs Z a w) {t:TypeId} {m k x:Operand} {i:TI} {h:Hint} (ho:o.op = .mapUpdate t m k x) (hi:tt.lookup t=some i)
 (he:evMapSet P i h T H (getV T m) (getV T k) (getV T x)=some (v,T',H',ps)) (hp:∀p∈ps,p):Does P N Γ o a w v T' H':=by
 have hm:=getV_sound hI m;have hk:=getV_sound hI k;have hx:=getV_sound hI x;unfold evMapSet at he;split at he
 ·rename_i id kd vd e1 e2 e3;rw [e1] at hm;rw [e2] at hk;rw [e3] at hx;cases hk with|d _ _ hk =>
  cases hx with|d _ _ hx =>
  generalize hfm:a.eval m=fm at hm;cases hm with|mp _ b q hb =>
  split at he
  ·rename_i kvs kt et kvs' hH hkind;split at he
   ·rename_i hbk;simp only [Zf,Ze] at he;obtain ⟨rfl,rfl,rfl,rfl⟩:=he;have hbk:=eqB_of hbk hp;have hset:setD kd vd kvs=some kvs':=hp _ (Yb ..);obtain ⟨d,g1,g2,_⟩:=(hT t i hi).kind;rw [hkind] at g2;have g2:d = .map kt et:=g2;subst g2;obtain ⟨es,q',k1,k2,k3⟩:=hW.objs id _ _ hH hb;have hlt:b<w.heap.size:=(ZP.1 k1).1;have hget:(getObj b).run P w = .ok (.map es q') w:=by simp [getObj,Sem.run,k1]
    have hsetO:∀ob,(setObj b ob).run P w = .ok () (w.putObj b ob):=fun ob=>by simp [setObj,Sem.run,k1,World.putObj]
    have hck:=checkKey_run (P:=P) false hbk hk;obtain ⟨r,h1,h2⟩:=setD_look kvs kvs' 0 hset
    obtain ⟨qv,f1,f2⟩:=findKey_run (P:=P) (es:=es.toList) hbk hk h1 (by simpa using k2) (fun j y hy=>by
     obtain ⟨e,e1,e2,e3⟩:=k3 j y hy
     exact ⟨e,by simpa using e1,e2,e3⟩)
    have hz:∀(ob:Obj) b',Z b'→(w.putObj b ob).heap[b']? = w.heap[b']? := fun ob b' hb'=>World.putObj_heap_other (fun e=>by subst e;exact hW.disj id b' q hb hb')
    have fin:∀(es':Array MapEntry) (q2:Nat),(execOp a.eval o).run P w = .ok .skip (w.putObj b (.map es' q2))→es'.size=kvs'.length→(∀(j:Nat) (x:D×D),kvs'[j]? = some x→∃e,es'[j]? = some e∧RD Z w x.1 e.key∧RD Z w x.2 e.val) →
     Does P N Γ o a w .top T (H.set id (.map kvs')):=by
     intro es' q2 hrun hsz hrel;refine Does.skip hrun (hW.write hb (fun b' hne=>World.putObj_heap_other hne) World.putObj_size rfl rfl rfl ⟨es',q2,World.putObj_heap_same hlt,hsz,fun j x hx=>?_⟩ (fun _ _ _=>rfl)) (hI.mono (fun _ _ h=>h) (fun _ h=>h) (hz _));obtain ⟨e,c1,c2,c3⟩:=hrel j x hx;exact ⟨e,c1,c2.mono (fun _ h=>h) (hz _),c3.mono (fun _ h=>h) (hz _)⟩
    cases r with
    | none =>
     cases qv with
     | some q=>exact f2.elim
     | none =>
      simp only at h2;subst h2;refine fin (es.push { key:=a.eval k,val:=a.eval x,born:=q' }) (q'+1) ?_ (by simp [k2]) (fun j y hy=>?_)
      ·simp only [execOp,ho,Instr.mapUpdate,Zy,run_underlying g1,hfm,hget,Zm,hck,f1,hsetO,ZJ]
      ·rw [ZA] at hy;rw [Array.getElem?_push];split at hy
       ·rename_i hj;rw [if_neg (by omega)];exact k3 j y hy
       ·rename_i hj
        have hj0:j-kvs.length=0:=by
         rcases Yc (j-kvs.length) with h0|h0
         ·exact h0
         ·rw [ZC (by simp;omega)] at hy;simp at hy
        rw [hj0] at hy;simp at hy;subst hy;rw [if_pos (by omega)];exact ⟨_,rfl,hk,hx⟩
    | some r =>
     cases qv with
     | none=>exact f2.elim
     | some qv =>
      obtain ⟨f3,f4,f5,e,y,f6,f7,f8,f9,f10⟩:=f2;obtain ⟨_,h3,h4⟩:=h2;simp only [Yq] at h3 h4;subst h4;have hes:es[r.1]? = some e:=by simpa using f6
      obtain ⟨hsame,hbits⟩:=key_same f8 hk f10
      have hstay:(Instr.keyThatStays (((es[qv.1]?).map (·.key)).getD (a.eval k)) (a.eval k)).run P w = .ok (a.eval k) w:=by
       rw [f3,hes];simp only [Zo,ZL,←hsame];rw [←hsame] at hbits;simp [Instr.keyThatStays,hbits]
      refine fin (es.modify qv.1 fun e=>{ e with key:=a.eval k,val:=a.eval x }) q' ?_ (by simp [k2]) (fun j y' hy=>?_)
      ·simp only [execOp,ho,Instr.mapUpdate,Zy,run_underlying g1,hfm,hget,Zm,hck,f1,hstay,hsetO,ZJ]
      ·rw [f3,Array.getElem?_modify];rw [Zn] at hy;by_cases hj:r.1=j
       ·subst hj;rw [if_pos rfl] at hy ⊢;simp [h3] at hy;subst hy;exact ⟨_,by rw [hes];rfl,hk,hx⟩
       ·rw [if_neg hj] at hy ⊢;exact k3 j y' hy
   ·simp at he
  ·simp at he
 ·simp at he
theorem okO_data {ds:List D} {p:Option (Nat×Nat)} (h:okO bs Z w (.cells (ds.map .d)) p):okO bs Z w (.data ds) p:=by
 cases p with
 | none=>simpa [okO] using h
 | some p =>
  obtain ⟨b,k⟩:=p;obtain ⟨cs,t,h1,h2,h3,h4⟩:=h;refine ⟨cs,t,h1,h2,by simpa using h3,fun j x hx=>?_⟩;obtain ⟨c,e1,e2,e3⟩:=h4 j (.d x) (by simp [hx]);exact ⟨c,e1,e2,by cases e3 with|d _ _ h=>exact h⟩
theorem putAt_mapD (us:List D):∀(ds:List D) (off:Nat),putAt (ds.map V.d) off (us.map .d)=(putAt ds off us).map .d:=by
 induction us with
 | nil=>intro ds off;rfl
 | cons u us ih=>intro ds off;simp only [ZW,putAt,←ih,List.map_set]
theorem copy_core (hT:Tab.ok P tt) (hW:InvW Γ H bs Z w) (hI:InvT N Γ T bs Z a w) {c:Call} {s x:Operand} {t:TypeId} {it:TI} {e id off n m el:Nat} {xs:List V} {cells:List D} {n':O} (ho:o.op = .call c) (hc:c.callee = .builtin .copy)
 (hty':c.argTypes[0]? = some t) (hargs:c.args = #[s,x]) (g1:P.underlying t=some (.slice el)) (h1:tt.lookup el=some it) (c1:it.size=e) (hS:RV bs Z w (.sl e id off n) (a.eval s)) (hrow:rowAt H id=some xs)
 (c3:cells.length=m*e) (c4:off+n*e≤xs.length)
 (hsrc:∃(srcC:List Value) (src:Value),a.eval x=src∧(Builtin.lenOf src).run P w = .ok m w∧RDL Z w (cells.take (min m n*e)) srcC∧(Builtin.firstCells it.size (min m n) src).run P w = .ok srcC.toArray w)
 (hn':∀(w':World) (p:Option (Nat×Nat)),okO bs Z w' (.cells (putAt xs off ((cells.take (min m n*e)).map V.d))) p→okO bs Z w' n' p) (hd:∀o,H[id]? = some o→o.isData=false→n'.isData=false)
 (hnil:xs=[]→n=0→H[id]? = some n'):Does P N Γ o a w (vi (min m n:Nat)) T (H.set id n'):=by
 obtain ⟨srcC,src,hsv,hlen,hRC,hfirst⟩:=hsrc
 have hcl:srcC.length=min m n*e:=by
  have:=hRC.1;rw [this,ZS,c3];exact Yz (ZQ _ (Nat.min_le_left _ _))
 have hexec:∀(dst:Value) (w':World) (base:Option Addr) (cap:Nat),a.eval s=dst→dst = .slice base n cap→(match base with|some ad=>(storeCells ad srcC).run P w = .ok () w'|none=>w'=w) →
  (execOp a.eval o).run P w = .ok (.value (.int .i64 (min m n:Nat))) w':=by
  intro dst w' base cap h2 h3 h4;subst h3;have hmin:Nat.min m n=min m n:=rfl;cases base with
  | none =>
   simp only at h4;subst h4;simp [execOp,ho,hc,hargs,resolve,invoke,builtin,Builtin.copy_,hty',run_underlying g1,h2,hsv,hlen,run_size hT h1,hfirst,hmin,goInt]
  | some ad =>
   simp only at h4;simp [execOp,ho,hc,hargs,resolve,invoke,builtin,Builtin.copy_,hty',run_underlying g1,h2,hsv,hlen,run_size hT h1,hfirst,hmin,goInt,h4]
 generalize hes:a.eval s=sv at hS;have hmap:(cells.take (min m n*e)).map V.d=(cells.take (min m n*e)).map .d:=rfl;cases hS with
 | sl0 _ _ hb =>
  have hx0:=hW.row0 hrow hb;subst hx0;refine Does.val (hexec _ w none 0 hes rfl rfl) ?_ hI (RV.mki _ _);have hH:=hnil rfl rfl
  have e1:H.set id n'=H:=by
   apply ZZ;intro j;rw [Zn];by_cases hj:id=j
   ·subst hj;rw [if_pos rfl,if_pos (Zb.1 hH).1,hH]
   ·rw [if_neg hj]
  rw [e1];exact hW
 | sl _ _ _ _ b k cap hb hcap hkk hmm =>
  obtain ⟨cs,ty,q1,q2,q3,q4⟩:=hW.row hrow hb
  have hfit:off+srcC.length≤cs.size:=by
   rw [hcl];have:min m n*e≤n*e:=ZQ _ (Nat.min_le_right _ _);omega
  have hfit2:off+(cells.take (min m n*e)).length≤xs.length:=by
   rw [←hRC.1,hcl];have:min m n*e≤n*e:=ZQ _ (Nat.min_le_right _ _);omega
  have hst:=run_storeCells_at P b off ty srcC 0 cs w q1 (by omega) hRC.ones;simp only [Yp] at hst
  have e2:cs.toList.take off++srcC++cs.toList.drop (off+srcC.length)=putAt cs.toList off srcC:=by
   rw [putAt_eq _ _ _ (by simp;omega)]
  rw [e2] at hst;have hz:∀b',Z b'→(w.setRow b (putAt cs.toList off srcC).toArray).heap[b']? = w.heap[b']? := fun b' hb'=>setRow_other w b b' _ (fun e=>by subst e;exact hW.disj id b' k hb hb');have hsz:(putAt cs.toList off srcC).toArray.size=cs.size:=by simp [putAt_length]
  refine Does.val (hexec _ _ (some ⟨b,off,none⟩) cap hes rfl hst) (hW.write hb (fun b' hne=>setRow_other w b b' _ hne) (setRow_size _ _ _) rfl rfl rfl (hn' _ _ ?_) hd) (hI.mono (fun _ _ h=>h) (fun _ h=>h) hz) (RV.mki _ _);have hxl:(putAt xs off ((cells.take (min m n*e)).map V.d)).length=xs.length:=putAt_length _ _ _;have h5:=RVL.putAt (bs:=bs) (Z:=Z) (w:=w) off q4 (hRC.toV (bs:=bs))
  have hok:okO bs Z (w.setRow b (putAt cs.toList off srcC).toArray) (.cells (putAt xs off ((cells.take (min m n*e)).map V.d))) (some (b,(putAt cs.toList off srcC).toArray.size)):=by
   refine okO.ofL (setRow_heap w b cs _ ty _ q1) ?_ (by rw [hxl,hsz];exact q2)
   have e3:(putAt cs.toList off srcC).toArray.toList.take (putAt xs off ((cells.take (min m n*e)).map V.d)).length=putAt (cs.toList.take xs.length) off srcC:=by
    rw [hxl,List.toList_toArray,putAt_eq _ _ _ (by simp;omega),putAt_eq _ _ _ (by simp;rw [hRC.1];omega)];apply ZZ;intro j;simp only [Zr,Yi,ZA,ZS,ZK];have hmm:min off cs.toList.length=off:=by simp;omega
    have hm2:min off (min xs.length cs.toList.length)=off:=by simp;omega
    rw [hmm,hm2];have hsl:srcC.length=(cells.take (min m n*e)).length:=hRC.1;by_cases h6:j<off
    ·simp [h6,show j<xs.length by omega]
    ·simp only [h6,if_false];by_cases h7:j-off<srcC.length
     ·simp [h7,show j<xs.length by omega]
     ·simp only [h7,if_false];by_cases h8:j<xs.length
      ·rw [if_pos h8,if_pos (by omega)]
      ·rw [if_neg h8,if_neg (by omega)]
   rw [e3];exact h5.mono (fun _ _ h=>h) (fun _ h=>h) hz
  rw [hsz,q3] at hok;exact hok
theorem copy_sound (hT:Tab.ok P tt) (hW:InvW Γ H bs Z w) (hI:InvT N Γ T bs Z a w) {c:Call} {s x:Operand} {t:TypeId} {rest:List TypeId} {i:TI} {h:Hint} (ho:o.op = .call c) (hc:c.callee = .builtin .copy) (ha:c.args.toList=[s,x]) (hty:c.argTypes.toList=t::rest) (hi:tt.lookup t=some i)
 (he:evCopy tt i h T H (getV T s) (getV T x)=some (v,T',H',ps)) (hp:∀p∈ps,p):Does P N Γ o a w v T' H':=by
 have hS:=getV_sound hI s;have hX:=getV_sound hI x
 have hty':c.argTypes[0]? = some t:=by
  have:c.argTypes.toList[0]? = some t:=by rw [hty];rfl
  simpa using this
 have hargs:c.args = #[s,x]:=by
  obtain ⟨callee,⟨args⟩,tys⟩:=c;simp at ha;subst ha;rfl
 unfold evCopy at he;split at he
 ·rename_i e id off n tg e' m cells hvs hvx;rw [hvs] at hS;rw [hvx] at hX;split at he
  ·rename_i el xs0 ns zs hk hH;split at he
   ·rename_i out;simp only [Zi] at he;obtain ⟨it,h1,he⟩:=he;split at he
    ·rename_i hcond;simp only [Zh,beq_iff_eq] at hcond;obtain ⟨c1,c2⟩:=hcond;simp only [Zf,Ze] at he;obtain ⟨rfl,rfl,rfl,rfl⟩:=he;obtain ⟨c0,c3,c4,rfl⟩:=hp _ (Zq.2 rfl);obtain ⟨d,g1,g2,_⟩:=(hT t i hi).kind;rw [hk] at g2;have g2:d = .slice el:=g2;subst g2;have hrow:rowAt H id=some (vecV xs0 ns zs):=by simp [rowAt,hH,O.row]

     have hsrc:∃(srcC:List Value) (src:Value),a.eval x=src∧(Builtin.lenOf src).run P w = .ok m w∧RDL Z w (cells.take (min m n*e)) srcC∧(Builtin.firstCells it.size (min m n) src).run P w = .ok srcC.toArray w:=by
      cases hX with|d _ _ hX =>
      generalize a.eval x=cx at hX;cases hX with
      | list0 _ _ ad cap ht =>
       refine ⟨[],_,rfl,by simp [Builtin.lenOf],by simp;exact ⟨rfl,fun j x c h=>by simp at h⟩,?_⟩;cases ad with
       | none=>simp [Builtin.firstCells]
       | some ad=>exact run_firstCells_some w _ _ ad _ _ [] (by simp) (by simp)
      | list _ _ _ _ ad cap f hn hl hz hcap ht hcell h1' hr =>
       have hle:min m n*e≤cells.length:=by rw [c3];exact ZQ _ (Nat.min_le_left _ _)
       refine ⟨(List.range (min m n*e)).map f,_,rfl,by simp [Builtin.lenOf],⟨by simp;omega,fun j x c hx hc=>?_⟩,?_⟩
       ·rw [Zr] at hx;split at hx
        ·rename_i hj;simp [hj] at hc;subst hc;exact ⟨h1' j (by omega),hr j x hx⟩
        ·simp at hx
       ·rw [c1];refine run_firstCells_some w e (min m n) ad _ _ _ (by simp) (fun j u hu=>?_);have hj:j<min m n*e:=by simpa using (Zb.1 hu).1
        simp [hj] at hu;subst hu;exact hcell j (by omega)
     exact copy_core hT hW hI ho hc hty' hargs g1 h1 c1 hS hrow c3 c4 hsrc (fun _ _ h=>h) (fun _ _ _=>rfl) (fun e0 _=>by rw [e0] at c0;exact absurd c0 (by simp))
    ·simp at he
   ·simp at he
  ·rename_i el xs hk hH;simp only [Zi] at he;obtain ⟨it,h1,he⟩:=he;split at he
   ·rename_i hcond;simp only [Zh,beq_iff_eq,Nat.beq_eq,Nat.ble_eq] at hcond;obtain ⟨⟨⟨c1,c2⟩,c3⟩,c4⟩:=hcond;simp only [Zf,Ze] at he;obtain ⟨rfl,rfl,rfl,rfl⟩:=he;obtain ⟨d,g1,g2,_⟩:=(hT t i hi).kind;rw [hk] at g2;have g2:d = .slice el:=g2;subst g2;have hrow:rowAt H id=some xs:=by simp [rowAt,hH,O.row]

    have hsrc:∃(srcC:List Value) (src:Value),a.eval x=src∧(Builtin.lenOf src).run P w = .ok m w∧RDL Z w (cells.take (min m n*e)) srcC∧(Builtin.firstCells it.size (min m n) src).run P w = .ok srcC.toArray w:=by
     cases hX with|d _ _ hX =>
     generalize a.eval x=cx at hX;cases hX with
     | list0 _ _ ad cap ht =>
      refine ⟨[],_,rfl,by simp [Builtin.lenOf],by simp;exact ⟨rfl,fun j x c h=>by simp at h⟩,?_⟩;cases ad with
      | none=>simp [Builtin.firstCells]
      | some ad=>exact run_firstCells_some w _ _ ad _ _ [] (by simp) (by simp)
     | list _ _ _ _ ad cap f hn hl hz hcap ht hcell h1' hr =>
      have hle:min m n*e≤cells.length:=by rw [c3];exact ZQ _ (Nat.min_le_left _ _)
      refine ⟨(List.range (min m n*e)).map f,_,rfl,by simp [Builtin.lenOf],⟨by simp;omega,fun j x c hx hc=>?_⟩,?_⟩
      ·rw [Zr] at hx;split at hx
       ·rename_i hj;simp [hj] at hc;subst hc;exact ⟨h1' j (by omega),hr j x hx⟩
       ·simp at hx
      ·rw [c1];refine run_firstCells_some w e (min m n) ad _ _ _ (by simp) (fun j u hu=>?_);have hj:j<min m n*e:=by simpa using (Zb.1 hu).1
       simp [hj] at hu;subst hu;exact hcell j (by omega)
    exact copy_core hT hW hI ho hc hty' hargs g1 h1 c1 hS hrow c3 c4 hsrc (fun _ _ h=>h) (fun _ _ _=>rfl) (fun e0 e1=>by subst e0;subst e1;simpa [putAt] using hH)
   ·simp at he
  ·simp at he
 ·rename_i e id off n e' id2 off2 m hvs hvx;rw [hvs] at hS;rw [hvx] at hX;split at he
  ·rename_i el xs o2 out hk hH hH2;split at he
   ·rename_i ys hys;simp only [Zi] at he;obtain ⟨it,h1,he⟩:=he;split at he
    ·rename_i hcond;simp only [Zh,beq_iff_eq,bne_iff_ne,ne_eq] at hcond;obtain ⟨⟨c1,c2⟩,c3⟩:=hcond;simp only [Zf,Ze] at he;obtain ⟨rfl,rfl,rfl,rfl⟩:=he;subst c2;obtain ⟨p1,p2,p3⟩:=hp _ (Zq.2 rfl);obtain ⟨d,g1,g2,_⟩:=(hT t i hi).kind;rw [hk] at g2;have g2:d = .slice el:=g2;subst g2;have hrow:rowAt H id=some (xs.map .d):=by simp [rowAt,hH,O.row]
     have hrow2:rowAt H id2=some (ys.map .d):=by
      cases o2<;>simp [O.ds] at hys<;>subst hys<;>simp [rowAt,hH2,O.row]
     have hcl:((ys.drop off2).take (m*e')).length=m*e':=p2
     have hsrc:∃(srcC:List Value) (src:Value),a.eval x=src∧(Builtin.lenOf src).run P w = .ok m w∧RDL Z w (((ys.drop off2).take (m*e')).take (min m n*e')) srcC∧(Builtin.firstCells it.size (min m n) src).run P w = .ok srcC.toArray w:=by
      generalize a.eval x=cx at hX;cases hX with
      | sl0 _ _ hb =>
       refine ⟨[],_,rfl,by simp [Builtin.lenOf],by simp;exact ⟨rfl,fun j x c h=>by simp at h⟩,?_⟩;simp [Builtin.firstCells]
      | sl _ _ _ _ b k cap hb hcap hkk hmm =>
       obtain ⟨cs,ty,q1,q2,q3,q4⟩:=hW.row hrow2 hb
       have hR:RDL Z w ys (cs.toList.take ys.length):=by
        have:=q4;rw [Zg] at this;exact this.toD
       have hle:min m n*e'≤m*e':=ZQ _ (Nat.min_le_left _ _)
       have hyl:off2+m*e'≤ys.length∨m*e'=0:=by
        simp only [ZS,Z8] at hcl;omega
       refine ⟨(((cs.toList.take ys.length).drop off2).take (m*e')).take (min m n*e'),_,rfl,by simp [Builtin.lenOf],((hR.drop off2).take _).take _,?_⟩;rw [c1]
       have hl2:((((cs.toList.take ys.length).drop off2).take (m*e')).take (min m n*e')).length=min m n*e':=by
        have:=(((hR.drop off2).take (m*e')).take (min m n*e')).1;rw [this,ZS,hcl];exact Yz hle
       refine run_firstCells_some w e' (min m n) ⟨b,off2,none⟩ _ _ _ hl2 (fun j u hu=>?_);rw [cell_at q1];simp only [Zr,ZK] at hu;split at hu
       ·split at hu
        ·split at hu
         ·simpa using hu
         ·simp at hu
        ·simp at hu
       ·simp at hu
     refine copy_core hT hW hI ho hc hty' hargs g1 h1 c1 hS hrow hcl (by simpa using p1) hsrc (fun w' p h=>?_) (fun o' h h'=>by rw [hH] at h;simp at h;subst h;simp [O.isData] at h') (fun e0 e1=>?_)
     ·rw [putAt_mapD,p3] at h;exact okO_data h
     ·subst e1;have:xs=[]:=by simpa using e0
      subst this;rw [hH,←p3];simp [putAt]
    ·simp at he
   ·simp at he
  ·simp at he
 ·simp at he
end
end Go.Sx
end
section
namespace Go.Sx
open Go
set_option linter.unusedSimpArgs false
set_option linter.unusedVariables false
mutual
def V.re (f:Nat→Option Nat):V→V
 | .ref id off=>match f id with|some k => .ref k off|none => .top
 | .sl e id off len=>match f id with|some k => .sl e k off len|none => .top
 | .mp id=>match f id with|some k => .mp k|none => .top
 | .yld id=>match f id with|some k => .yld k|none => .top
 | .fn g a c => .fn g (V.reL f a) (V.reL f c)
 | .agg cs => .agg (V.reL f cs)
 | .tup vs => .tup (V.reL f vs)
 | .when b x => .when b (V.re f x)
 | .top => .top
 | .d x => .d x
 | .rop cells => .rop cells
def V.reL (f:Nat→Option Nat):List V→List V
 | []=>[]
 | v::vs=>V.re f v::V.reL f vs
end
theorem reL_eq (f:Nat→Option Nat) (vs:List V):V.reL f vs=vs.map (V.re f):=by
 induction vs with
 | nil=>simp [V.reL]
 | cons v vs ih=>simp [V.reL,ih]
theorem RV.re {bs bs':Bs} {Z:Nat→Prop} {w:World} {v:V} {c:Value} (f:Nat→Option Nat) (h:RV bs Z w v c) (hb:∀(i j:Nat) (o:Option (Nat×Nat)),f i=some j→bs[i]? = some o→bs'[j]? = some o) :
 RV bs' Z w (v.re f) c:=by
 induction h with
 | top c=>simp [V.re];exact .top c
 | d x c h=>simp [V.re];exact .d x c h
 | ref id off b k h =>
  simp only [V.re];split
  ·exact .ref _ off b k (hb _ _ _ (by assumption) h)
  ·exact .top _
 | sl e id off len b k cap h hc hk hm =>
  simp only [V.re];split
  ·exact .sl e _ off len b k cap (hb _ _ _ (by assumption) h) hc hk hm
  ·exact .top _
 | sl0 e id h =>
  simp only [V.re];split
  ·exact .sl0 e _ (hb _ _ _ (by assumption) h)
  ·exact .top _
 | rop cells ad f hz hc h1 hr=>simp [V.re];exact .rop cells ad f hz hc h1 hr
 | mp id b k h =>
  simp only [V.re];split
  ·exact .mp _ b k (hb _ _ _ (by assumption) h)
  ·exact .top _
 | yld id b k h =>
  simp only [V.re];split
  ·exact .yld _ b k (hb _ _ _ (by assumption) h)
  ·exact .top _
 | fn g first captured fs cs f k hl hl' hf hk hr hr' ih ih' =>
  simp only [V.re,reL_eq];refine .fn g _ _ fs cs f k (by simpa using hl) (by simpa using hl') hf hk (fun j x hx=>?_) (fun j x hx=>?_)
  ·rw [Zj,Zc] at hx;obtain ⟨y,hy,rfl⟩:=hx;exact ih j y hy
  ·rw [Zj,Zc] at hx;obtain ⟨y,hy,rfl⟩:=hx;exact ih' j y hy
 | agg cells cs f hl hf h1 hr ih =>
  simp only [V.re,reL_eq];refine .agg _ cs f (by simpa using hl) hf (fun j hj=>h1 j (by simpa using hj)) (fun j x hx=>?_);rw [Zj,Zc] at hx;obtain ⟨y,hy,rfl⟩:=hx;exact ih j y hy
 | tup vs cs f hl hf hr ih =>
  simp only [V.re,reL_eq];refine .tup _ cs f (by simpa using hl) hf (fun j x hx=>?_);rw [Zj,Zc] at hx;obtain ⟨y,hy,rfl⟩:=hx;exact ih j y hy
 | when b x c h h' ih=>simp only [V.re];exact .when b _ c ih h'
def O.re (f:Nat→Option Nat):O→O
 | .cells xs => .cells (V.reL f xs)
 | .data ds => .data ds
 | .fixed ds => .fixed ds
 | .map kvs => .map kvs
 | .loop st ps as bd N T => .loop st ps as bd N (T.map fun q=>(q.1,q.2.re f))
 | .vec xs ns zs => .vec (V.reL f xs) ns (V.reL f zs)
 | .bld (some (some (l,j))) => .bld ((f j).map fun k=>some (l,k))
 | .bld st => .bld st
 | .bldr l => .bldr l
theorem okO.re {bs bs':Bs} {Z:Nat→Prop} {w:World} {o:O} {b:Option (Nat×Nat)} (f:Nat→Option Nat) (h:okO bs Z w o b) (hb:∀(i j:Nat) (o:Option (Nat×Nat)),f i=some j→bs[i]? = some o→bs'[j]? = some o) :
 okO bs' Z w (o.re f) b:=by
 cases o with
 | cells xs =>
  cases b with
  | none=>simp only [okO] at h;subst h;simp [O.re,V.reL,okO]
  | some p =>
   obtain ⟨k,q⟩:=p;obtain ⟨cs,t,hh,hk,hl,hx⟩:=h;simp only [O.re,reL_eq];refine ⟨cs,t,hh,hk,by simpa using hl,fun j x hj=>?_⟩;rw [Zj,Zc] at hj;obtain ⟨y,hy,rfl⟩:=hj;obtain ⟨c,hc,h1,hr⟩:=hx j y hy;exact ⟨c,hc,h1,hr.re f hb⟩
 | vec ys ns ts =>
  have hv:vecV (V.reL f ys) ns (V.reL f ts)=(vecV ys ns ts).map (V.re f):=by simp [vecV,tailV_eq,reL_eq,V.re]
  cases b with
  | none=>simp only [okO] at h;simp only [O.re,okO,hv,h,List.map_nil]
  | some p =>
   obtain ⟨k,q⟩:=p;obtain ⟨cs,t,hh,hk,hl,hx⟩:=h;simp only [O.re,okO,hv];refine ⟨cs,t,hh,hk,by simpa using hl,fun j x hj=>?_⟩;rw [Zj,Zc] at hj;obtain ⟨y,hy,rfl⟩:=hj;obtain ⟨c,hc,h1,hr⟩:=hx j y hy;exact ⟨c,hc,h1,hr.re f hb⟩
 | bld st =>
  match st,h with
  | none,_=>cases b<;>trivial
  | some none,h=>cases b<;>exact h
  | some (some (l,j)),h =>
   simp only [O.re];cases hf:f j with
   | none=>cases b<;>trivial
   | some k =>
    cases b with
    | none=>exact h.elim
    | some q =>
     obtain ⟨b,n⟩:=q;obtain ⟨g,cap,h1,h2,h3,h4⟩:=h;exact ⟨g,cap,hb j k _ hf h1,h2,h3,h4⟩
 | bldr l=>cases b<;>exact h
 | data ds =>
  cases b with
  | none=>exact h
  | some p=>exact h
 | fixed ds =>
  cases b with
  | none=>exact h
  | some p=>exact h
 | map kvs =>
  cases b with
  | none=>exact h
  | some p=>exact h
 | loop st ps as bd N T =>
  cases b with
  | none=>exact h
  | some p =>
   obtain ⟨k,q⟩:=p;obtain ⟨r,h1,h2,h3,h4,h5,h6,h7⟩:=h;refine ⟨r,h1,h2,h3,h4,h5,h6,fun i x hx=>?_⟩;simp only [ZX] at hx;obtain ⟨⟨j,y⟩,hy,he⟩:=hx;simp at he;obtain ⟨rfl,rfl⟩:=he;exact ⟨(h7 j y hy).1,(h7 j y hy).2.re f hb⟩
def O.fix:O→O
 | .data ds => .fixed ds
 | o=>o
def O.unfix:O→O
 | .fixed ds => .data ds
 | o=>o
theorem okO.fix {bs:Bs} {Z:Nat→Prop} {w:World} {o:O} {b:Option (Nat×Nat)} (h:okO bs Z w o b):okO bs Z w o.fix b:=by
 cases o<;>cases b<;>exact h
theorem okO.unfix {bs:Bs} {Z:Nat→Prop} {w:World} {o:O} {b:Option (Nat×Nat)} (h:okO bs Z w o b):okO bs Z w o.unfix b:=by
 cases o<;>cases b<;>exact h
def HRun (K:Array Value→World→(Ending→World→Prop)→Prop) (args:List V) (H:List O) (r:V) (H':List O):Prop :=
 ∀(Γ:Ctx) (bs:Bs) (Z:Nat→Prop) (w:World) (cs:Array Value),InvW Γ H bs Z w→Γ.n0≤H.length→cs.size=args.length →
  (∀(j:Nat) x c,args[j]? = some x→cs[j]? = some c→RV bs Z w x c) →
  K cs w (fun e w'=>∃c bs' Z',e = .returned c∧InvW Γ H' bs' Z' w'∧RV bs' Z' w' r c)
structure HCall (P:Program) (f:FuncId) (args:List V) (H:List O) (r:V) (H':List O):Prop where
 ok:FnOk P f
 run:HRun (fun cs w R=>Calls P f cs w R) args H r H'
def wideAt (ro:Option Nat):Fence:={ Fence.wide with round:=ro }
def YRun (P:Program) (cs:Array Value) (w:World) (R:Ending→World→Prop):Prop :=
 ∃(l:Nat) (r:Loop),cs[0]? = some (.func (.yield l) #[] #[])∧w.heap[l]? = some (.loop r)∧cs.size=r.params.size+1 ∧
  RoundIn Fence.wide 0 P l r.fn ((r.params.zip (cs.extract 1 cs.size)).foldl (fun tmps (t,a)=>tmps.setIfInBounds t a) r.tmps) r.assign r.body w R
def YCall (P:Program) (args:List V) (H:List O) (r:V) (H':List O):Prop:=HRun (YRun P) args H r H'
theorem YRun.mono {P:Program} {cs:Array Value} {w:World} {R R':Ending→World→Prop} (h:YRun P cs w R) (hr:∀e w,R e w→R' e w):YRun P cs w R':=by
 obtain ⟨l,r,h1,h2,h3,h4⟩:=h;exact ⟨l,r,h1,h2,h3,h4.mono hr⟩
def inIds:List Nat→Nat→Nat→Option Nat
 | [],_,_=>none
 | k::ks,n,i=>if k==i then some n else inIds ks (n+1) i
def outIds (ids:List Nat) (m:Nat) (j:Nat):Option Nat :=
 match ids[j]? with
 | some i=>some i
 | none=>some (m+(j-ids.length))
def fixAt (b:Bool) (o:O):O:=cond b o.fix o
def unfixAt (b:Bool) (o:O):O:=cond b o.unfix o
def subH (H:List O) (is:List Nat):List (Nat×Bool)→Option (List O)
 | []=>some []
 | p::ps =>
  match H[p.1]?,subH H is ps with
  | some o,some os=>if p.2 && !o.isData then none else some (fixAt p.2 (o.re (inIds is 0))::os)
  | _,_=>none
def nodupB:List Nat→Bool
 | []=>true
 | k::ks => !(ks.contains k)&&nodupB ks
def oldH (H':List O) (g:Nat→Option Nat):Nat→List (Nat×Bool)→Option (List O)
 | _,[]=>some []
 | n,p::ps =>
  match H'[n]?,oldH H' g (n+1) ps with
  | some o,some os=>some (unfixAt p.2 (o.re g)::os)
  | _,_=>none
def mergeH (is:List Nat) (olds:List O) (nm:Nat→Bool):Nat→List O→List O
 | _,[]=>[]
 | i,o::os=>(match inIds is 0 i with
  | some j=>(olds[j]?).getD (o.only nm)
  | none=>o.only nm)::mergeH is olds nm (i+1) os
def mergeB (is:List Nat) (bs':Bs):Nat→Bs→Bs
 | _,[]=>[]
 | i,b::bs=>(match inIds is 0 i with
  | some j=>(bs'[j]?).getD b
  | none=>b)::mergeB is bs' (i+1) bs
theorem mergeH_get (is:List Nat) (olds:List O) (nm:Nat→Bool):∀(H:List O) (k i:Nat),(mergeH is olds nm k H)[i]? = (H[i]?).map fun o=>match inIds is 0 (k+i) with
 | some j=>(olds[j]?).getD (o.only nm)
 | none=>o.only nm:=by
 intro H;induction H with
 | nil=>intro k i;simp [mergeH]
 | cons o H ih =>
  intro k i;cases i with
  | zero=>simp [mergeH]
  | succ i=>simp only [mergeH,List.getElem?_cons_succ,ih,Nat.add_assoc,Nat.add_comm 1 i]
theorem mergeB_get (is:List Nat) (bs':Bs):∀(bs:Bs) (k i:Nat),(mergeB is bs' k bs)[i]? = (bs[i]?).map fun b=>match inIds is 0 (k+i) with
 | some j=>(bs'[j]?).getD b
 | none=>b:=by
 intro bs;induction bs with
 | nil=>intro k i;simp [mergeB]
 | cons o H ih =>
  intro k i;cases i with
  | zero=>simp [mergeB]
  | succ i=>simp only [mergeB,List.getElem?_cons_succ,ih,Nat.add_assoc,Nat.add_comm 1 i]
theorem mergeH_length (is:List Nat) (olds:List O) (nm:Nat→Bool) (H:List O) (k:Nat):(mergeH is olds nm k H).length=H.length:=by
 induction H generalizing k with
 | nil=>rfl
 | cons o H ih=>simp [mergeH,ih]
theorem mergeB_length (is:List Nat) (bs':Bs) (bs:Bs) (k:Nat):(mergeB is bs' k bs).length=bs.length:=by
 induction bs generalizing k with
 | nil=>rfl
 | cons o H ih=>simp [mergeB,ih]
theorem inIds_some:∀(is:List Nat) (n i j:Nat),inIds is n i=some j→n≤j∧is[j-n]? = some i:=by
 intro is;induction is with
 | nil=>intro n i j h;simp [inIds] at h
 | cons k is ih =>
  intro n i j h;unfold inIds at h;split at h
  ·rename_i e;simp at e h;subst e;subst h;simp
  ·obtain ⟨h1,h2⟩:=ih (n+1) i j h;refine ⟨by omega,?_⟩;rw [show j-n=(j-(n+1))+1 by omega];simpa using h2
theorem inIds_get:∀(is:List Nat) (n i j:Nat),nodupB is=true→is[j]? = some i→inIds is n i=some (n+j):=by
 intro is;induction is with
 | nil=>intro n i j _ h;simp at h
 | cons k is ih =>
  intro n i j hn h;simp only [nodupB,Zh,Bool.not_eq_true'] at hn;unfold inIds;cases j with
  | zero=>simp at h;subst h;simp
  | succ j =>
   simp at h
   have hne:(k==i)=false:=by
    rw [beq_eq_false_iff_ne];rintro rfl;have:=hn.1;simp at this;exact this (ZG h)
   rw [hne];simp only [Zk,if_false];rw [ih (n+1) i j hn.2 h];congr 1;omega
end Go.Sx
end
section
namespace Go.Sx
open Go
set_option linter.unusedSimpArgs false
set_option linter.unusedVariables false
theorem subH_get {H:List O} {is:List Nat}:∀{ids:List (Nat×Bool)} {Hs:List O},subH H is ids=some Hs →
 Hs.length=ids.length∧∀(j:Nat) p,ids[j]? = some p→∃o,H[p.1]? = some o∧(p.2=true→o.isData=true)∧Hs[j]? = some (fixAt p.2 (o.re (inIds is 0))):=by
 intro ids;induction ids with
 | nil=>intro Hs h;simp [subH] at h;subst h;exact ⟨rfl,fun j p h=>by simp at h⟩
 | cons q ids ih =>
  intro Hs h;unfold subH at h;split at h
  ·rename_i o os h1 h2;split at h
   ·simp at h
   ·rename_i hc;simp at h;subst h;obtain ⟨h3,h4⟩:=ih h2;refine ⟨by simp [h3],fun j p hj=>?_⟩;cases j with
    | zero =>
     simp at hj;subst hj;refine ⟨o,h1,fun hp=>?_,rfl⟩;simpa [hp] using hc
    | succ j=>simpa using h4 j p (by simpa using hj)
  ·simp at h
theorem oldH_get {H':List O} {g:Nat→Option Nat}:∀{ids:List (Nat×Bool)} {n:Nat} {olds:List O},oldH H' g n ids=some olds →
 olds.length=ids.length∧∀(j:Nat) p,ids[j]? = some p→∃o,H'[n+j]? = some o∧olds[j]? = some (unfixAt p.2 (o.re g)):=by
 intro ids;induction ids with
 | nil=>intro n olds h;simp [oldH] at h;subst h;exact ⟨rfl,fun j p h=>by simp at h⟩
 | cons q ids ih =>
  intro n olds h;unfold oldH at h;split at h
  ·rename_i o os h1 h2;simp at h;subst h;obtain ⟨h3,h4⟩:=ih h2;refine ⟨by simp [h3],fun j p hj=>?_⟩;cases j with
   | zero=>simp at hj;subst hj;exact ⟨o,h1,rfl⟩
   | succ j =>
    obtain ⟨o',h5,h6⟩:=h4 j p (by simpa using hj);exact ⟨o',by rw [←h5];congr 1;omega,by simpa using h6⟩
  ·simp at h
theorem re_isData (f:Nat→Option Nat) (o:O):(o.re f).isData=o.isData:=by
 match o with
 | .bld none | .bld (some none)=>rfl
 | .bld (some (some (l,j)))=>simp only [O.re];cases f j<;>rfl
 | .cells _ | .data _ | .fixed _ | .map _ | .loop .. | .vec .. | .bldr _=>rfl
theorem okO.fixAt {bs:Bs} {Z:Nat→Prop} {w:World} {o:O} {b:Option (Nat×Nat)} (q:Bool) (h:okO bs Z w o b):okO bs Z w (fixAt q o) b:=by
 cases q
 ·exact h
 ·exact h.fix
theorem okO.unfixAt {bs:Bs} {Z:Nat→Prop} {w:World} {o:O} {b:Option (Nat×Nat)} (q:Bool) (h:okO bs Z w o b):okO bs Z w (unfixAt q o) b:=by
 cases q
 ·exact h
 ·exact h.unfix
theorem fixAt_isData {q:Bool} {o:O} (h:o.isData=false):(fixAt q o).isData=false:=by
 cases q<;>cases o<;>simp_all [fixAt,O.fix,O.isData]
def stayIds:List Nat→List O→Nat→Bool
 | i::is,o::Hs,k=>if i==k then !o.isData else stayIds is Hs k
 | _,_,_=>true
theorem stay_all {is:List Nat} {Hs:List O} (h:Hs.all (fun o => !o.isData)=true):∀k,stayIds is Hs k=true:=by
 induction is generalizing Hs with
 | nil=>intro k;rfl
 | cons i is ih =>
  intro k;cases Hs with
  | nil=>rfl
  | cons o Hs =>
   simp only [List.all_cons,Zh] at h;unfold stayIds;split
   ·exact h.1
   ·exact ih h.2 k
theorem stayIds_get:∀(is:List Nat) (Hs:List O) (j i:Nat) (o:O),nodupB is=true→is[j]? = some i→Hs[j]? = some o→stayIds is Hs i = !o.isData:=by
 intro is;induction is with
 | nil=>intro Hs j i o _ h;simp at h
 | cons k is ih =>
  intro Hs j i o hn h ho;cases Hs with
  | nil=>simp at ho
  | cons q Hs =>
   simp only [nodupB,Zh,Bool.not_eq_true'] at hn;unfold stayIds;cases j with
   | zero=>simp at h ho;subst h;subst ho;simp
   | succ j =>
    simp at h ho
    have hne:(k==i)=false:=by
     rw [beq_eq_false_iff_ne];rintro rfl;have:=hn.1;simp at this;exact this (ZG h)
    rw [hne];simp only [Zk,if_false];exact ih Hs j i o hn.2 h ho
variable {P:Program} {Γ:Ctx} {H H' Hs:List O} {bs:Bs} {Z:Nat→Prop} {w:World}
theorem HRun.use {K:Array Value→World→(Ending→World→Prop)→Prop} (hK:∀{cs w} {R R':Ending→World→Prop},K cs w R→(∀e w,R e w→R' e w)→K cs w R') {args:List V} {r:V} (hc:HRun K args Hs r H') (hW:InvW Γ H bs Z w) {ids:List (Nat×Bool)} (hnd:nodupB (ids.map (·.1))=true) (hs:subH H (ids.map (·.1)) ids=some Hs) {olds:List O}
 (ho:oldH H' (outIds (ids.map (·.1)) H.length) 0 ids=some olds) {cs:Array Value} {gs:List V} (hl:cs.size=gs.length) (hre:gs.map (V.re (inIds (ids.map (·.1)) 0))=args)
 (hargs:∀(j:Nat) x c,gs[j]? = some x→cs[j]? = some c→RV bs Z w x c) :
 K cs w (fun e w'=>∃c bs2 Z',e = .returned c ∧
  InvW Γ (mergeH (ids.map (·.1)) olds (stayIds (ids.map (·.1)) Hs) 0 H++(H'.drop ids.length).map (O.re (outIds (ids.map (·.1)) H.length))) bs2 Z' w'∧RV bs2 Z' w' (r.re (outIds (ids.map (·.1)) H.length)) c ∧
  (∀(i:Nat) (o:Option (Nat×Nat)),stayIds (ids.map (·.1)) Hs i=true→bs[i]? = some o→bs2[i]? = some o)∧(∀b,Z b→Z' b)∧(∀b,Z b→w'.heap[b]? = w.heap[b]?)):=by
 generalize his:ids.map (·.1)=is at *;obtain ⟨hsl,hsg⟩:=subH_get hs;obtain ⟨hol,hog⟩:=oldH_get ho;have hisl:is.length=ids.length:=by rw [←his];simp
 have hidx:∀(j i:Nat),is[j]? = some i→∃p,ids[j]? = some p∧p.1=i:=by
  intro j i h;rw [←his,Zj,Zc] at h;exact h

 let bss:Bs:=is.map fun i=>(bs[i]?).getD none
 have hlt:∀i,i∈is→i<bs.length:=by
  intro i hi;obtain ⟨j,hj⟩:=Yd.1 hi;obtain ⟨p,hp,rfl⟩:=hidx j i hj;obtain ⟨o,h1,_⟩:=hsg j p hp;rw [hW.lenH];exact (Zb.1 h1).1
 have hbss:∀(j i:Nat),is[j]? = some i→bss[j]? = bs[i]? := by
  intro j i h;simp only [bss,Zj,h,Zo];rw [Zd (hlt i (ZG h))];rfl
 have hbssl:bss.length=ids.length:=by simp [bss,hisl]
 have hbss':∀(j:Nat) (q:Option (Nat×Nat)),bss[j]? = some q→∃i,is[j]? = some i∧bs[i]? = some q:=by
  intro j q h;have hj:j<is.length:=by have:=(Zb.1 h).1;simpa [bss] using this
  exact ⟨is[j],Zd hj,by rw [←hbss j is[j] (Zd hj)];exact h⟩
 have hin:∀(i j:Nat) (o:Option (Nat×Nat)),inIds is 0 i=some j→bs[i]? = some o→bss[j]? = some o:=by
  intro i j o h1 h2;obtain ⟨_,h3⟩:=inIds_some is 0 i j h1;rw [hbss j i (by simpa using h3)];exact h2
 let B:Nat→Prop:=fun b=>∃i k,i∈is∧bs[i]? = some (some (b,k))
 let pn:Nat→Option (Option (Nat×Nat)):=fun j=>if (Hs[j]?).map O.isData=some false then bss[j]? else none
 have hpn:∀i p,pn i=some p→i<ids.length:=by
  intro i p h;simp only [pn] at h;split at h
  ·rw [←hbssl];exact (Zb.1 h).1
  ·simp at h
 let Γ':Ctx:={ w0:=w,Z0:=Z,B0:=B,lay:=hW.lay,layB:=(fun b hb ⟨i,k,_,h⟩=>hW.disj i b k h (match b,hb with|0,_=>hW.lay.z0|1,_=>hW.lay.z1)),pin:=pn,n0:=ids.length,pinlt:=hpn }
 have hWs:InvW Γ' Hs bss Z w:=by
  constructor
  ·rw [hbssl,hsl]
  ·intro j o q h1 h2;obtain ⟨i,h3,h4⟩:=hbss' j q h2;obtain ⟨p,h5,rfl⟩:=hidx j i h3;obtain ⟨o',h6,_,h7⟩:=hsg j p h5;rw [h1] at h7;simp at h7;subst h7;exact ((hW.objs _ _ _ h6 h4).re _ hin).fixAt _
  ·intro i j b k k' h1 h2;obtain ⟨i',h3,h4⟩:=hbss' i _ h1;obtain ⟨j',h5,h6⟩:=hbss' j _ h2;have:=hW.nodup _ _ _ _ _ h4 h6;subst this;have e1:=inIds_get is 0 i' i hnd h3;have e2:=inIds_get is 0 i' j hnd h5;rw [e1] at e2;simp at e2;exact e2
  ·intro i b k h1;obtain ⟨i',h3,h4⟩:=hbss' i _ h1;exact hW.disj _ _ _ h4
  ·intro i b k h1;obtain ⟨i',h3,h4⟩:=hbss' i _ h1;exact hW.lt _ _ _ h4
  ·exact hW.zlt
  ·exact fun b h=>h
  ·intro i b k h1;obtain ⟨i',h3,h4⟩:=hbss' i _ h1;exact .inr ⟨i',k,ZG h3,h4⟩
  ·exact fun b h => .inl h
  ·exact Zx _
  ·exact fun b _ _=>rfl
  ·rfl
  ·rfl
  ·rfl
  ·intro i p h;simp only [Γ',pn] at h;split at h
   ·rename_i hd;refine ⟨h,?_⟩;rw [Zc] at hd;exact hd
   ·simp at h
 have hn0:Γ'.n0≤Hs.length:=by rw [hsl];exact Zx _
 have hcs:cs.size=args.length:=by rw [hl,←hre];simp
 refine hK (hc Γ' bss Z w cs hWs hn0 hcs ?_) ?_
 ·intro j x c hx hcj;rw [←hre,Zj,Zc] at hx;obtain ⟨y,hy,rfl⟩:=hx;exact (hargs j y c hy hcj).re _ hin
 rintro e w' ⟨c,bs',Z',rfl,hW',hr⟩
 have hbl':ids.length≤bs'.length:=by
  rw [hW'.lenH];rcases Yc ids.length with h0|h0
  ·omega
  ·have hj:ids.length-1<ids.length:=by omega
   obtain ⟨o,h1,_⟩:=hog (ids.length-1) ids[ids.length-1] (Zd hj);have:=(Zb.1 h1).1;omega
 let bs2:Bs:=mergeB is bs' 0 bs++bs'.drop ids.length

 have hget:∀(i:Nat) (q:Option (Nat×Nat)),bs2[i]? = some q→(i<bs.length∧inIds is 0 i=none∧bs[i]? = some q)∨(∃j,i<bs.length∧inIds is 0 i=some j∧j<ids.length∧bs'[j]? = some q) ∨
  (bs.length≤i∧bs'[ids.length+(i-bs.length)]? = some q):=by
  intro i q h;simp only [bs2,ZA,mergeB_length] at h;split at h
  ·rename_i hi;rw [mergeB_get,Zc,Zw] at h;obtain ⟨b,hb,h⟩:=h;split at h
   ·rename_i j hj;obtain ⟨_,h3⟩:=inIds_some is 0 i j hj;have hjl:j<ids.length:=by rw [←hisl];exact (Zb.1 (by simpa using h3)).1
    rw [Zd (show j<bs'.length by omega)] at h;simp at h;exact .inr (.inl ⟨j,hi,hj,hjl,by rw [Zd (show j<bs'.length by omega),h]⟩)
   ·rename_i hj;subst h;exact .inl ⟨hi,hj,hb⟩
  ·rename_i hi;rw [ZK] at h;exact .inr (.inr ⟨by omega,h⟩)
 have hget0:∀(i:Nat) (q:Option (Nat×Nat)),inIds is 0 i=none→bs[i]? = some q→bs2[i]? = some q:=by
  intro i q h1 h2;have hi:=(Zb.1 h2).1;simp only [bs2,ZA,mergeB_length,if_pos hi,mergeB_get,Zw,h2,Zo,h1]
 have hget1:∀(i j:Nat) (q:Option (Nat×Nat)),inIds is 0 i=some j→bs'[j]? = some q→bs2[i]? = some q:=by
  intro i j q h1 h2;obtain ⟨_,h3⟩:=inIds_some is 0 i j h1;have hi:=hlt i (ZG h3);simp only [bs2,ZA,mergeB_length,if_pos hi,mergeB_get,Zw,Zd hi,Zo,h1,h2,ZL]
 have hg:∀(j k:Nat) (q:Option (Nat×Nat)),outIds is H.length j=some k→bs'[j]? = some q→bs2[k]? = some q:=by
  intro j k q h1 h2;unfold outIds at h1;split at h1
  ·rename_i i hi;simp at h1;subst h1;exact hget1 i j q (by simpa using inIds_get is 0 i j hnd hi) h2
  ·rename_i hi;simp at h1;subst h1;rw [List.getElem?_eq_none_iff] at hi;simp only [bs2,ZA,mergeB_length,←hW.lenH];rw [if_neg (by omega),ZK,←h2];congr 1;omega
 have hstay:∀(i:Nat) (q:Option (Nat×Nat)),stayIds is Hs i=true→bs[i]? = some q→bs2[i]? = some q:=by
  intro i q h1 h2;cases h3:inIds is 0 i with
  | none=>exact hget0 i q h3 h2
  | some j =>
   obtain ⟨_,h4⟩:=inIds_some is 0 i j h3;simp only [Yq] at h4;have hjs:j<Hs.length:=by rw [hsl,←hisl];exact (Zb.1 h4).1
   have h5:=stayIds_get is Hs j i Hs[j] hnd h4 (Zd hjs);rw [h1] at h5
   have h6:Γ'.pin j=some q:=by
    simp only [Γ',pn,Zd hjs,Zo];rw [if_pos (by congr 1;simpa using h5.symm),hbss j i h4];exact h2
   exact hget1 i j q h3 (hW'.pin j q h6).1
 have hnB:∀(i b k:Nat),inIds is 0 i=none→bs[i]? = some (some (b,k))→¬B b:=by
  rintro i b k h1 h2 ⟨i',k',h3,h4⟩;have:=hW.nodup _ _ _ _ _ h2 h4;subst this;obtain ⟨j,hj⟩:=Yd.1 h3;rw [inIds_get is 0 i j hnd hj] at h1;simp at h1
 have hZB:∀b,Z b→¬B b:=by
  rintro b hb ⟨i',k',h3,h4⟩;exact hW.disj _ _ _ h4 hb
 have hheap:∀b,b<w.heap.size→¬B b→w'.heap[b]? = w.heap[b]? := fun b h1 h2=>hW'.frame b h1 h2;have hzheap:∀b,Z b→w'.heap[b]? = w.heap[b]? := fun b hb=>hheap b (hW.zlt b hb) (hZB b hb);have hZ':∀b,Z b→Z' b:=hW'.z0

 have hnew:∀(j b k:Nat),bs'[j]? = some (some (b,k))→w.heap.size≤b∨B b:=fun j b k h=>hW'.fresh j b k h
 have hBfresh:∀b,B b→b<w.heap.size∧(Γ.w0.heap.size≤b∨Γ.B0 b):=by
  rintro b ⟨i,k,_,h⟩;exact ⟨hW.lt _ _ _ h,hW.fresh _ _ _ h⟩
 have hoB:∀(i b k:Nat),inIds is 0 i=none→bs[i]? = some (some (b,k))→∀(j k':Nat),bs'[j]? = some (some (b,k'))→False:=by
  intro i b k h1 h2 j k' h3;rcases hnew j b k' h3 with h|h
  ·have:=hW.lt _ _ _ h2;omega
  ·exact hnB i b k h1 h2 h
 refine ⟨c,bs2,Z',rfl,?_,hr.re _ hg,hstay,hZ',hzheap⟩
 have honly:∀{o:O} {q:Option (Nat×Nat)} (i:Nat),inIds is 0 i=none→bs[i]? = some q→okO bs Z w o q→okO bs2 Z' w' (o.only (stayIds is Hs)) q:=by
  intro o q i hn hq h;have h1:okO bs2 Z w (o.only (stayIds is Hs)) q:=h.only _ hstay;refine h1.mono (fun _ _ h=>h) hZ' hzheap ?_;rintro k g rfl;exact hheap k (hW.lt _ _ _ hq) (hnB i k g hn hq)
 constructor
 ·simp only [bs2,ZE,mergeB_length,mergeH_length,Z8,Zg];have:=hW.lenH;have:=hW'.lenH;omega
 ·intro i o q h1 h2;rw [ZA,mergeH_length] at h1;rcases hget i q h2 with ⟨hi,h3,h4⟩|⟨j,hi,h3,h3',h4⟩|⟨hi,h4⟩
  ·rw [if_pos (by rw [←hW.lenH];exact hi),mergeH_get,Zw,Zc] at h1;obtain ⟨o',h5,h6⟩:=h1;rw [h3] at h6;simp only at h6;subst h6;exact honly i h3 h4 (hW.objs _ _ _ h5 h4)
  ·rw [if_pos (by rw [←hW.lenH];exact hi),mergeH_get,Zw,Zc] at h1;obtain ⟨o',h5,h6⟩:=h1;rw [h3] at h6;simp only at h6;obtain ⟨p,hp⟩:∃p,ids[j]? = some p:=⟨_,Zd h3'⟩
   obtain ⟨o'',h7,h8⟩:=hog j p hp;rw [h8] at h6;simp at h6;subst h6;rw [Zw] at h7;exact ((hW'.objs _ _ _ h7 h4).re _ hg).unfixAt _
  ·rw [if_neg (by rw [←hW.lenH];omega),Zj,ZK,Zc] at h1;obtain ⟨o',h5,rfl⟩:=h1;rw [hW.lenH] at h4;exact (hW'.objs _ _ _ h5 h4).re _ hg
 ·intro i j b k k' h1 h2;rcases hget i _ h1 with ⟨hi,h3,h4⟩|⟨n,hi,h3,h3',h4⟩|⟨hi,h4⟩<;>rcases hget j _ h2 with ⟨hj,g3,g4⟩|⟨m,hj,g3,g3',g4⟩|⟨hj,g4⟩
  ·exact hW.nodup _ _ _ _ _ h4 g4
  ·exact (hoB i b k h3 h4 _ _ g4).elim
  ·exact (hoB i b k h3 h4 _ _ g4).elim
  ·exact (hoB j b k' g3 g4 _ _ h4).elim
  ·have:=hW'.nodup _ _ _ _ _ h4 g4;subst this;obtain ⟨_,h5⟩:=inIds_some is 0 i n h3;obtain ⟨_,h6⟩:=inIds_some is 0 j n g3;rw [h5] at h6;simpa using h6
  ·have:=hW'.nodup _ _ _ _ _ h4 g4;omega
  ·exact (hoB j b k' g3 g4 _ _ h4).elim
  ·have:=hW'.nodup _ _ _ _ _ h4 g4;omega
  ·have:=hW'.nodup _ _ _ _ _ h4 g4;omega
 ·intro i b k h1 hz;rcases hget i _ h1 with ⟨hi,h3,h4⟩|⟨n,hi,h3,h3',h4⟩|⟨hi,h4⟩
  ·rcases hW'.zfresh b hz with h|h|h
   ·exact hW.disj _ _ _ h4 h
   ·have:=hW.lt _ _ _ h4;exact absurd h (by show ¬w.heap.size≤b;omega)
   ·exact hnB i b k h3 h4 h
  ·exact hW'.disj _ _ _ h4 hz
  ·exact hW'.disj _ _ _ h4 hz
 ·intro i b k h1;have hsz:w.heap.size≤w'.heap.size:=hW'.size;rcases hget i _ h1 with ⟨hi,h3,h4⟩|⟨n,hi,h3,h3',h4⟩|⟨hi,h4⟩
  ·have:=hW.lt _ _ _ h4;omega
  ·exact hW'.lt _ _ _ h4
  ·exact hW'.lt _ _ _ h4
 ·exact hW'.zlt
 ·exact fun b hb=>hZ' b (hW.z0 b hb)
 ·intro i b k h1;have hsz:Γ.w0.heap.size≤w.heap.size:=hW.size
  have key:∀j:Nat,bs'[j]? = some (some (b,k))→Γ.w0.heap.size≤b∨Γ.B0 b:=by
   intro j hj;rcases hnew j b k hj with h|h
   ·left;omega
   ·exact (hBfresh b h).2
  rcases hget i _ h1 with ⟨hi,h3,h4⟩|⟨n,hi,h3,h3',h4⟩|⟨hi,h4⟩
  ·exact hW.fresh _ _ _ h4
  ·exact key _ h4
  ·exact key _ h4
 ·intro b hz;have hsz:Γ.w0.heap.size≤w.heap.size:=hW.size;rcases hW'.zfresh b hz with h|h|h
  ·exact hW.zfresh b h
  ·right;left;exact Z3 hsz h
  ·exact .inr (hBfresh b h).2
 ·exact Z3 hW.size hW'.size
 ·intro b h1 h2
  have hnb:¬B b:=by
   intro h;rcases (hBfresh b h).2 with h|h
   ·omega
   ·exact h2 h
  rw [hheap b (Yg h1 hW.size) hnb];exact hW.frame b h1 h2
 ·exact hW'.os.trans hW.os
 ·exact hW'.tape.trans hW.tape
 ·exact hW'.output.trans hW.output
 ·intro i p hp;obtain ⟨h1,o,h2,h3⟩:=hW.pin i p hp;have hi:=(Zb.1 h1).1;cases h4:inIds is 0 i with
  | none =>
   refine ⟨hget0 i p h4 h1,o.only (stayIds is Hs),?_,by rw [only_isData];exact h3⟩;rw [ZA,mergeH_length,if_pos (by rw [←hW.lenH];exact hi),mergeH_get,Zw,h2,h4];rfl
  | some j =>
   obtain ⟨_,h5⟩:=inIds_some is 0 i j h4;simp only [Yq] at h5;obtain ⟨q,h6,rfl⟩:=hidx j i h5;obtain ⟨o',h7,h8,h9⟩:=hsg j q h6;rw [h2] at h7;simp at h7;subst h7
   have hq:q.2=false:=by
    cases hq:q.2
    ·rfl
    ·have:=h8 hq;rw [h3] at this;simp at this
   have hpin:Γ'.pin j=some p:=by
    simp only [Γ',pn,h9,Zo];rw [if_pos (by rw [fixAt_isData (by rw [re_isData];exact h3)]),hbss j q.1 h5];exact h1
   obtain ⟨k1,o2,k2,k3⟩:=hW'.pin j p hpin;obtain ⟨o3,k4,k5⟩:=hog j q h6;rw [Zw,k2] at k4;simp at k4;subst k4;refine ⟨hget1 q.1 j p h4 k1,o2.re (outIds is H.length),?_,by rw [re_isData];exact k3⟩;rw [ZA,mergeH_length,if_pos (by rw [←hW.lenH];exact hi),mergeH_get,Zw,h2,h4];simp only [Zo,k5,ZL,hq,unfixAt,cond_false]
def evHCall (P:Program) (ids:List (Nat×Bool)) (r:V) (H':List O) (T:St) (H:List O) (fv:V) (args:List V):Option (V×St×List O×List Prop) :=
 if nodupB (ids.map (·.1)) then
  match subH H (ids.map (·.1)) ids,oldH H' (outIds (ids.map (·.1)) H.length) 0 ids with
  | some Hs,some olds =>
   match fv with
   | .fn (.func f) first cap=>some (r.re (outIds (ids.map (·.1)) H.length),onlyT (stayIds (ids.map (·.1)) Hs) T,
    mergeH (ids.map (·.1)) olds (stayIds (ids.map (·.1)) Hs) 0 H++(H'.drop ids.length).map (O.re (outIds (ids.map (·.1)) H.length)),
    [HCall P f ((first++args++cap).map (V.re (inIds (ids.map (·.1)) 0))) Hs r H'])
   | .yld k=>some (r.re (outIds (ids.map (·.1)) H.length),onlyT (stayIds (ids.map (·.1)) Hs) T,
    mergeH (ids.map (·.1)) olds (stayIds (ids.map (·.1)) Hs) 0 H++(H'.drop ids.length).map (O.re (outIds (ids.map (·.1)) H.length)),
    [YCall P ((.yld k::args).map (V.re (inIds (ids.map (·.1)) 0))) Hs r H'])
   | _=>none
  | _,_=>none
 else none
def evHC (P:Program) (o:Oper) (ids:List (Nat×Bool)) (r:V) (H':List O) (T:St) (H:List O):Option (V×St×List O×List Prop) :=
 match o.op with
 | .call c =>
  match c.callee with
  | .value f=>evHCall P ids r H' T H (getV T f) (c.args.toList.map (getV T))
  | _=>none
 | _=>none
theorem evHC_T {P:Program} {o:Oper} {ids:List (Nat×Bool)} {r v:V} {H' H H1 Hs:List O} {T T1:St} {ps:List Prop} (he:evHC P o ids r H' T H=some (v,T1,H1,ps)) (hs:subH H (ids.map (·.1)) ids=some Hs) :
 T1=onlyT (stayIds (ids.map (·.1)) Hs) T:=by
 unfold evHC at he;split at he
 ·split at he
  ·unfold evHCall at he;split at he
   ·split at he
    ·rename_i Hs' olds h1 h2;rw [hs] at h1;simp only [Zf] at h1;subst h1;split at he
     ·simp only [Zf,Ze] at he;exact he.2.1.symm
     ·simp only [Zf,Ze] at he;exact he.2.1.symm
     ·simp at he
    ·simp at he
   ·simp at he
  ·simp at he
 ·simp at he
def DoesIn (P:Program) (N:Nat) (Γ:Ctx) (o:Oper) (a:Act) (w:World) (v:V) (T':St) (H':List O):Prop :=
 ∀(ro:Option Nat) (next:Act→World→Prop) (Q:Exit→Act→World→Prop),(∀c bs' Z' w',InvW Γ H' bs' Z' w'→InvT N Γ T' bs' Z' a w'→RV bs' Z' w' v c→next (a.put o.dst c) w')→o.wpIn (wideAt ro) 0 P a w next Q
section
variable {o:Oper} {a:Act} {v:V} {ps:List Prop} {N:Nat} {T T':St}
theorem run_enter' {c:Call} {x:Operand} {f:FuncId} {fs cs:Array Value} (ho:o.op = .call c) (hc:c.callee = .value x) (hx:a.eval x = .func (.func f) fs cs) (hf:FnOk P f) :
 (execOp a.eval o).run P w = .ok (.enter f (fs++c.args.map a.eval++cs)) w:=by
 simp [execOp,ho,resolve,hc,hx,Deferred.ofValue,invoke,run_callFunc hf]
theorem run_yield' {c:Call} {x:Operand} {l:Nat} {r:Loop} (ho:o.op = .call c) (hc:c.callee = .value x) (hx:a.eval x = .func (.yield l) #[] #[]) (hl:w.heap[l]? = some (.loop r)) (hs:c.args.size=r.params.size) :
 (execOp a.eval o).run P w = .ok (.round l r.fn ((r.params.zip (c.args.map a.eval)).foldl (fun tmps (t,a)=>tmps.setIfInBounds t a) r.tmps) r.assign r.body) w:=by
 have:=run_yield (P:=P) (args:=c.args.map a.eval) hl (by simpa using hs);simp [execOp,ho,resolve,hc,hx,Deferred.ofValue,invoke,this]
theorem args_rel (hI:InvT N Γ T bs Z a w) (l:Array Operand):∀(j:Nat) y d,(l.toList.map (getV T))[j]? = some y→(l.map a.eval)[j]? = some d→RV bs Z w y d:=by
 intro j y d hy hd;rw [Zj,Zc] at hy;obtain ⟨u,hu,rfl⟩:=hy;rw [Array.getElem?_map,Zc] at hd;obtain ⟨u',hu',rfl⟩:=hd;rw [Array.getElem?_toList,hu'] at hu;simp at hu;subst hu;exact getV_sound hI _
theorem call_rel {first cap gs:List V} {fs cs as:Array Value} {f k:Nat→Value} (hl:fs.size=first.length) (hl':cs.size=cap.length) (hgl:gs.length=as.size)
 (hf:∀j,j<fs.size→fs[j]? = some (f j)) (hk:∀j,j<cs.size→cs[j]? = some (k j))
 (hr:∀j x,first[j]? = some x→RV bs Z w x (f j)) (hr':∀j x,cap[j]? = some x→RV bs Z w x (k j)) (hargs:∀(j:Nat) y d,gs[j]? = some y→as[j]? = some d→RV bs Z w y d) :
 ∀(j:Nat) y d,(first++gs++cap)[j]? = some y→(fs++as++cs)[j]? = some d→RV bs Z w y d:=by
 intro j y d hy hd;simp only [Yi,ZA] at hy;rw [Ye,Ye] at hd;simp only [Array.size_append] at hd;split at hy
 ·rename_i h1;rw [if_pos (by omega),if_pos (by omega),hf j (by omega)] at hd;simp at hd;subst hd;exact hr j y hy
 ·rename_i h1;split at hy
  ·rename_i h2;rw [if_pos (by omega),if_neg (by omega),hl] at hd;exact hargs _ _ _ hy hd
  ·rename_i h2;rw [if_neg (by omega)] at hd;have e:j-(fs.size+as.size)=j-first.length-gs.length:=by rw [hl];omega
   rw [e] at hd;have hlt:=(Zb.1 hy).1;rw [hk _ (by omega)] at hd;simp at hd;subst hd;exact hr' _ _ hy
theorem hcall_run (hW:InvW Γ H bs Z w) {fv:V} {gs:List V} {x:Operand} {c:Call} (ho:o.op = .call c) (hc:c.callee = .value x) (hx:RV bs Z w fv (a.eval x)) (hgl:gs.length=c.args.size)
 (hargs:∀(j:Nat) y d,gs[j]? = some y→(c.args.map a.eval)[j]? = some d→RV bs Z w y d) {ids:List (Nat×Bool)} {r:V} (he:evHCall P ids r H' T H fv gs=some (v,T',Hs,ps)) (hp:∀p∈ps,p)
 (ro:Option Nat) (next:Act→World→Prop) (Q:Exit→Act→World→Prop)
 (hn:∀(Hs':List O) c bs2 Z' w',subH H (ids.map (·.1)) ids=some Hs'→T'=onlyT (stayIds (ids.map (·.1)) Hs') T→InvW Γ Hs bs2 Z' w'→RV bs2 Z' w' v c→(∀(i:Nat) (o:Option (Nat×Nat)),stayIds (ids.map (·.1)) Hs' i=true→bs[i]? = some o→bs2[i]? = some o) →
  (∀b,Z b→Z' b)→(∀b,Z b→w'.heap[b]? = w.heap[b]?)→next (a.put o.dst c) w'):o.wpIn (wideAt ro) 0 P a w next Q:=by
 have hnd:∀d,o.op ≠ .defer d:=by intro d hd;rw [ho] at hd;cases hd
 unfold evHCall at he;split at he
 ·rename_i hnd';split at he
  ·rename_i Hs' olds hs hol;split at he
   ·rename_i f first cap
    simp only [Zf,Ze] at he;obtain ⟨rfl,rfl,rfl,rfl⟩:=he;have hcall:=hp _ (Zq.2 rfl);generalize hfv:a.eval x=fv at hx;cases hx with
    | fn _ _ _ fs cs g k hl hl' hf hk hr hr' =>
     refine ⟨fun _ _=>trivial,?_⟩;rw [Oper.semAt_eq _ _ _ hnd,run_enter' ho hc hfv hcall.ok];refine ⟨fun h=>by simp [wideAt,Fence.wide] at h,(callsIn_wide (n:=0)).2 ?_⟩;refine Calls.mono (HRun.use (K:=fun cs w R=>Calls P f cs w R) Calls.mono hcall.run hW hnd' hs hol (gs:=first++gs++cap) ?_ rfl (call_rel hl hl' (by simpa using hgl) hf hk hr hr' hargs)) ?_
     ·simp [hl,hl',hgl,Nat.add_assoc]
     ·rintro e w' ⟨c',bs2,Z',rfl,h1,h2,h3,h4,h5⟩;exact hn _ _ _ _ _ hs rfl h1 h2 h3 h4 h5
   ·rename_i k;simp only [Zf,Ze] at he;obtain ⟨rfl,rfl,rfl,rfl⟩:=he;have hcall:=hp _ (Zq.2 rfl);generalize hfv:a.eval x=fv at hx;cases hx with
    | yld _ b q hb =>
     refine ⟨fun _ _=>trivial,?_⟩
     obtain ⟨l,r',k1,k2,k3,k4⟩:=HRun.use (K:=YRun P) YRun.mono hcall hW hnd' hs hol (gs := .yld k::gs) (cs := #[.func (.yield b) #[] #[]]++c.args.map a.eval) (by simp;omega) rfl (by
      intro j y d hy hd;cases j with
      | zero =>
       have hd':d = .func (.yield b) #[] #[]:=by
        rw [Array.getElem?_append_left (by simp)] at hd;simpa using hd.symm
       simp at hy;subst hy;subst hd';exact .yld _ _ _ hb
      | succ j =>
       have hd':(c.args.map a.eval)[j]? = some d:=by
        rw [Array.getElem?_append_right (by simp)] at hd;simpa using hd
       exact hargs j y d (by simpa using hy) hd')
     have hlb:l=b:=by
      rw [Array.getElem?_append_left (by simp)] at k1;simpa using k1.symm
     subst hlb;rw [Oper.semAt_eq _ _ _ hnd,run_yield' ho hc hfv k2 (by simp at k3;omega)];refine ⟨fun h=>by simp [wideAt,Fence.wide] at h,?_⟩
     have e:(#[Value.func (.yield l) #[] #[]]++c.args.map a.eval).extract 1 (#[Value.func (.yield l) #[] #[]]++c.args.map a.eval).size=c.args.map a.eval:=by
      apply Array.ext';simp;exact ZH (by simp)
     rw [e] at k4;refine RoundIn.mono (F:=Fence.wide) k4 ?_;rintro e w' ⟨c',bs2,Z',rfl,h1,h2,h3,h4,h5⟩;exact hn _ _ _ _ _ hs rfl h1 h2 h3 h4 h5
   ·simp at he
  ·simp at he
 ·simp at he
theorem hc_next (hI:InvT N Γ T bs Z a w) {bs2:Bs} {Z':Nat→Prop} {w':World} {st:Nat→Bool} (hs:∀(i:Nat) (o:Option (Nat×Nat)),st i=true→bs[i]? = some o→bs2[i]? = some o) (hZ:∀b,Z b→Z' b)
 (hw:∀b,Z b→w'.heap[b]? = w.heap[b]?):InvT N Γ (onlyT st T) bs2 Z' a w' :=
 (hI.only st hs).mono (fun _ _ h=>h) hZ hw
theorem evHC_sound (hW:InvW Γ H bs Z w) (hI:InvT N Γ T bs Z a w) {ids:List (Nat×Bool)} {r:V} (he:evHC P o ids r H' T H=some (v,T',Hs,ps)) (hp:∀p∈ps,p):DoesIn P N Γ o a w v T' Hs:=by
 unfold evHC at he;split at he
 ·rename_i c ho;split at he
  ·rename_i x hc;intro ro next Q hn;refine hcall_run hW ho hc (getV_sound hI x) (by simp) (args_rel hI c.args) he hp ro next Q ?_;intro Hs' c' bs2 Z' w' hs hT h1 h2 h3 h4 h5;subst hT;exact hn _ _ _ _ h1 (hc_next hI h3 h4 h5) h2
  ·simp at he
 ·simp at he
end
end Go.Sx
end
section
namespace Go.Sx
open Go
set_option linter.unusedSimpArgs false
set_option linter.unusedVariables false
section eff
variable {P:Program} {tt:Tab} {bs:Bs} {Z:Nat→Prop} {w:World} {o:Oper} {a:Act} {v:V} {ps:List Prop} {N:Nat} {Γ:Ctx} {T T':St} {H H':List O}
def NoDefer (o:Oper):Prop:=∀c,o.op ≠ .defer c
theorem evEff_nd {h:Hint} {q:V×St×List O×List Prop} (he:evEff P tt o h T H=some q):NoDefer o:=by
 intro c hc;unfold evEff at he;simp [hc] at he
theorem evPure_nd {h:Hint} {get:Operand→V} {q:V×List Prop} (he:evPure P tt o h get H=some q):NoDefer o:=by
 intro c hc;unfold evPure at he;simp [hc] at he
theorem rows_in {row:String} {args:Array Value} {R:Value→World→Prop} {ro:Option Nat} {n:Nat} (h:Rows P row args w R):RowsIn (wideAt ro) n P row args w R:=by
 intro c cs _;obtain ⟨v,w',hr,hs⟩:=h c cs;exact ⟨v,w',hr,stepsIn_wide.2 hs⟩
theorem calls_in {f:FuncId} {args:Array Value} {R:Ending→World→Prop} {ro:Option Nat} {n:Nat} (h:Calls P f args w R):CallsIn (wideAt ro) n P f args w R :=
 (callsIn_wide (n:=n)).2 h
theorem wp_to_in {next:Act→World→Prop} {Q:Exit→Act→World→Prop} (hnd:NoDefer o) (ro:Option Nat) (h:o.wp P a w next Q):o.wpIn (wideAt ro) 0 P a w next Q:=by
 refine ⟨fun _ _=>trivial,?_⟩;rw [Oper.semAt_eq _ _ _ hnd];unfold Oper.wp at h;generalize (execOp a.eval o).run P w=r at *;cases r with
 | ok x w' =>
  cases x with
  | value v=>exact h
  | skip=>exact h
  | defer d=>exact h
  | enter f args=>exact ⟨fun h=>by simp [wideAt,Fence.wide] at h,calls_in h⟩
  | row r args=>exact ⟨fun h=>by simp [wideAt,Fence.wide] at h,rows_in h⟩
  | _=>exact h.elim
 | halt x w' =>
  cases x<;>exact h
theorem evEff_sound (hT:Tab.ok P tt) (hW:InvW Γ H bs Z w) (hI:InvT N Γ T bs Z a w) {h:Hint} (he:evEff P tt o h T H=some (v,T',H',ps)) (hp:∀p∈ps,p):Does P N Γ o a w v T' H':=by
 unfold evEff at he;split at he
 ·rename_i t ho;split at he
  ·split at he
   ·rename_i ht;simp only [Zi] at he;obtain ⟨i,hi,he⟩:=he;split at he
    ·rename_i hz;simp only [Zf,Ze] at he;obtain ⟨rfl,rfl,rfl,rfl⟩:=he;exact allocB_sound hT hW hI ho hi (Z9 ht) hz
    ·simp at he
   ·simp at he
  simp only [Zc,Ze] at he;obtain ⟨i,hi,rfl,rfl,rfl,rfl⟩:=he;exact alloc_sound hT hW hI ho hi
 ·rename_i t x ho;simp only [Zc,Ze] at he;obtain ⟨vs,hv,rfl,rfl,rfl,rfl⟩:=he;exact box_sound hW hI ho hv
 ·rename_i t len parts ho;split at he
  ·rename_i hlen;simp only [Zi,Zc,Ze] at he;obtain ⟨i,hi,⟨e,vs⟩,h1,ds,h2,rfl,rfl,rfl,rfl⟩:=he;exact buildOwn_sound hT hW hI ho hi h1 h2 (by simp at hlen;omega)
  ·simp at he
 ·rename_i t x y ho;simp only [Zi] at he;obtain ⟨i,hi,he⟩:=he;exact store_sound hT hW hI ho hi he hp
 ·rename_i t x y ho;simp only [Zi] at he;obtain ⟨i,hi,he⟩:=he;exact make_sound hT hW hI ho hi he hp
 ·rename_i c ho;split at he
  ·rename_i s x t t' hc ha hty;split at he
   ·rename_i htt;simp at htt;simp only [Zi] at he;obtain ⟨i,hi,he⟩:=he;exact append_sound hT hW hI ho hc ha hty htt hi he hp
   ·split at he
    ·rename_i hst;simp only [Zi] at he;obtain ⟨i,hi,he⟩:=he;exact appendS_sound hT hW hI ho hc ha hty hst hi he hp
    ·simp at he
  ·rename_i s x t rest hc ha hty;simp only [Zi] at he;obtain ⟨i,hi,he⟩:=he;exact copy_sound hT hW hI ho hc ha hty hi he hp
  ·simp at he
 ·rename_i t ho;simp only [Zc,Ze] at he;obtain ⟨i,hi,rfl,rfl,rfl,rfl⟩:=he;exact makeMap_sound hW hI ho
 ·rename_i t m k x ho;simp only [Zi] at he;obtain ⟨i,hi,he⟩:=he;exact mapSet_sound hT hW hI ho hi he hp
 ·simp at he
theorem RV.bare {x:V} {c:Value} (h:RV bs Z w x c) (hc:∀b∈x.cond,b=true):RV bs Z w x.bare c:=by
 cases x with
 | when b y =>
  cases h with|when _ _ _ h2 h3=>exact h2 (hc b (by simp [V.cond]))
 | _=>exact h
theorem mem_of_lookup {T:St} {t:Nat} {v:V} (hl:T.lookup t=some v):(t,v)∈T:=by
 induction T with
 | nil=>simp at hl
 | cons p T ih =>
  obtain ⟨k,u⟩:=p;rw [ZV] at hl;split at hl
  ·rename_i he;simp at he hl;subst he;subst hl;simp
  ·exact Zz _ (ih hl)
theorem InvT.put {dst:Option Tmp} {c:Value} (hI:InvT N Γ T bs Z a w) (hd:∀d,dst=some d→d<N) (hv:RV bs Z w v c):InvT N Γ (putT dst v T) bs Z (a.put dst c) w:=by
 cases dst with
 | none=>exact hI
 | some d =>
  refine ⟨by simp [Act.put,hI.size],hI.defers,fun i x hx=>?_⟩;simp only [putT,ZM,Ze,Ym] at hx;have hd:=hd d rfl;rcases hx with ⟨rfl,rfl⟩|⟨hx,hne⟩
  ·refine ⟨hd,?_⟩;simp only [Act.put];rw [Zu,Array.getElem?_setIfInBounds_self_of_lt (by rw [hI.size];exact hd)];exact hv
  ·have:=hI.rel i x hx;refine ⟨this.1,?_⟩;simp at hne;simp only [Act.put];rw [Zu,Array.getElem?_setIfInBounds_ne (by omega),←Zu];exact this.2
end eff
def guardOf (dsts:List (Option Tmp)) (T:St):Option (Nat×Bool)→Option (Option Bool)
 | none=>some none
 | some (j,want) =>
  match dsts[j]? with
  | some (some d) =>
   match T.lookup d with
   | some (.d (.v (.bool b)))=>some (some (cond want b (!b)))
   | some (.when g (.d (.v (.bool b))))=>some (some (g&&cond want b (!b)))
   | _=>none
  | _=>none
def condsOf (get:Operand→V) (o:Oper):List Bool:=o.op.operands.toList.flatMap fun x=>(get x).cond
def dstOk (N:Nat):Option Tmp→Bool
 | some d=>Nat.blt d N
 | none=>true
def isHC:Hint→Bool
 | .hcall _ _ _=>true
 | .gcall _ _ _ _=>true
 | .rcall _ _=>true
 | _=>false
def bareT (xs:List Operand) (T:St):St:=xs.filterMap fun x =>
 match x with
 | .tmp t=>(T.lookup t).map fun v=>(t,v.bare)
 | _=>none
def evGC (P:Program) (o:Oper) (g:Bool) (ids:List (Nat×Bool)) (r:V) (H' Hn:List O) (T:St) (H:List O):Option (V×List O×List Prop) :=
 match subH H (ids.map (·.1)) ids with
 | some Hs =>
  if Hs.all (fun o => !o.isData) then
   (evHC P o ids r H' (bareT o.op.operands.toList T++T) H).map fun q=>(.when g q.1,Hn,
    (condsOf (getV T) o).map (fun c=>g=true→c=true)++((g=true→q.2.2.1=Hn)::(g=false→H=Hn)::q.2.2.2.map (fun p=>g=true→p)))
  else none
 | none=>none
def evGuard (P:Program) (tt:Tab) (o:Oper) (h:Hint) (g:Bool) (get:Operand→V) (H:List O):Option (V×List Prop) :=
 match o.op,h with
 | .pick c x y,.own=>(evPick (get c).bare (get x) (get y)).map fun q=>(.when g q.1,(get c).cond.map (fun c=>g=true→c=true)++q.2.map (fun p=>g=true→p))
 | _,_=>(evPure P tt o h (fun x=>(get x).bare) H).map fun q=>(.when g q.1,(condsOf get o).map (fun c=>g=true→c=true)++q.2.map (fun p=>g=true→p))
def evOne (P:Program) (tt:Tab) (N:Nat) (dsts:List (Option Tmp)) (o:Oper) (h:Hint) (T:St) (H:List O):Option (St×List O×List Prop) :=
 if dstOk N o.dst then
  match guardOf dsts T o.guard with
  | none=>none
  | some none =>
   if isEff o h then (evEff P tt o h T H).map fun q=>(putT o.dst q.1 q.2.1,q.2.2.1,q.2.2.2)
   else if isHC h then
    match h with
    | .hcall ids r H'=>(evHC P o ids r H' T H).map fun q=>(putT o.dst q.1 q.2.1,q.2.2.1,q.2.2.2)
    | _=>none
   else (evPure P tt o h (getV T) H).map fun q=>(putT o.dst q.1 T,H,q.2)
  | some (some g) =>
   if isEff o h then none
   else match h with
    | .gcall ids r H' Hn=>(evGC P o g ids r H' Hn T H).map fun q=>(putT o.dst q.1 T,q.2.1,q.2.2)
    | _=>(evGuard P tt o h g (getV T) H).map fun q=>(putT o.dst q.1 T,H,q.2)
 else none
def evOps (P:Program) (tt:Tab) (N:Nat) (dsts:List (Option Tmp)):List Oper→List Hint→St→List O→Option (St×List O×List Prop)
 | [],_,T,H=>some (T,H,[])
 | o::os,hs,T,H =>
  match evOne P tt N dsts o (hs.headD .no) T H with
  | none=>none
  | some (T1,H1,ps) =>
   match evOps P tt N dsts os hs.tail T1 H1 with
   | none=>none
   | some (T2,H2,qs)=>some (T2,H2,ps++qs)
def keepT (ks:List Nat) (T:St):St:=ks.filterMap fun k=>(T.lookup k).map fun v=>(k,v)
def evReg (P:Program) (tt:Tab) (N:Nat) (ops:Array Oper) (hs:List Hint) (ks:List Nat) (T:St) (H:List O):Option (St×List O×List Prop) :=
 (evOps P tt N (ops.toList.map (·.dst)) ops.toList hs T H).map fun q=>(keepT ks q.1,q.2.1,q.2.2)
def AllP:List Prop→Prop
 | []=>True
 | [p]=>p
 | p::ps=>p∧AllP ps
theorem AllP.mem {ps:List Prop} (h:AllP ps):∀p∈ps,p:=by
 induction ps with
 | nil=>intro p hp;simp at hp
 | cons q qs ih =>
  intro p hp;cases qs with
  | nil=>rw [Zq] at hp;subst hp;exact h
  | cons r rs =>
   obtain ⟨h1,h2⟩:=h;rcases ZM.1 hp with rfl|hp
   ·exact h1
   ·exact ih h2 p hp
section region
variable {P:Program} {tt:Tab} {rd:Bool} {N fl:Nat} {T T':St} {H H':List O} {ps:List Prop}
theorem Inv.keep {Γ:Ctx} {a:Act} {w:World} (h:Inv N Γ T H a w) (ks:List Nat):Inv N Γ (keepT ks T) H a w:=by
 obtain ⟨bs,Z,hW,hI⟩:=h;refine ⟨bs,Z,hW,hI.size,hI.defers,fun i x hx=>?_⟩;simp only [keepT,Yn,Zc,Ze] at hx;obtain ⟨k,_,v,hl,rfl,rfl⟩:=hx;exact hI.rel k v (mem_of_lookup hl)
theorem evGuard_sound (hT:Tab.ok P tt) {o:Oper} {ps:List Prop} {H:List O} {g:Bool} {get:Operand→V} {h:Hint} {v':V} (he:evGuard P tt o h g get H=some (v',ps)) (hp:∀p∈ps,p) :
 ∃v,v' = .when g v∧NoDefer o∧(g=true→∀{Γ:Ctx} {bs:Bs} {Z:Nat→Prop} {w:World} {a:Act},InvW Γ H bs Z w→(∀x,RV bs Z w (get x) (a.eval x))→Yields P bs Z w o a v):=by
 unfold evGuard at he;split at he
 ·rename_i c x y ho;simp only [Zc,Ze] at he;obtain ⟨⟨v,qs⟩,h1,rfl,rfl⟩:=he;refine ⟨v,rfl,fun c hc=>by rw [ho] at hc;simp at hc,?_⟩;rintro rfl Γ bs Z w a hW hget
  have hcond:∀b∈(get c).cond,b=true:=fun b hb=>by
   have:(true=true→b=true):=hp _ (Z7 _ (ZX.2 ⟨b,hb,rfl⟩));exact this rfl
  have hps:∀p∈qs,p:=fun p hp'=>hp (true=true→p) (ZN _ (ZX.2 ⟨p,hp',rfl⟩)) rfl;exact pick_sound ho ((hget c).bare hcond) (hget x) (hget y) h1 hps
 ·simp only [Zc,Ze] at he;obtain ⟨⟨v,qs⟩,h1,rfl,rfl⟩:=he;refine ⟨v,rfl,evPure_nd h1,?_⟩;rintro rfl Γ bs Z w a hW hget0
  have hcond:∀x∈o.op.operands,∀c∈(get x).cond,c=true:=by
   intro x hx c hc
   have:(true=true→c=true):=hp _ (Z7 _ (ZX.2 ⟨c,by
    simp only [condsOf,List.mem_flatMap]
    exact ⟨x,by simpa using hx,hc⟩,rfl⟩))
   exact this rfl
  have hps:∀p∈qs,p:=fun p hp'=>hp (true=true→p) (ZN _ (ZX.2 ⟨p,hp',rfl⟩)) rfl
  classical
  let get':Operand→V:=fun x=>if x∈o.op.operands then (get x).bare else .top
  have hget:∀x,RV bs Z w (get' x) (a.eval x):=by
   intro x;simp only [get'];split
   ·rename_i hx;exact (hget0 x).bare (hcond x hx)
   ·exact .top _
  have hcg:∀x∈o.op.operands,(fun x=>(get x).bare) x=get' x:=by
   intro x hx;show (get x).bare=(if x∈o.op.operands then (get x).bare else V.top);rw [if_pos hx]
  rw [evPure_congr hcg] at h1;exact evPure_sound hT hW hget h1 hps
theorem evOne_sound (hT:Tab.ok P tt) {ops:Array Oper} {o:Oper} {h:Hint} {ro:Option Nat} {Γ:Ctx} {a:Act} {w:World} {next:Act→World→Prop} {Q:Exit→Act→World→Prop}
 (he:evOne P tt N (ops.toList.map (·.dst)) o h T H=some (T',H',ps)) (hp:∀p∈ps,p) (hinv:Inv N Γ T H a w) (hn:∀a' w',Inv N Γ T' H' a' w'→next a' w') :
 if Region.wanted o (yielded ops a.tmps) then o.wpIn (wideAt ro) 0 P a w next Q else next (a.put o.dst undef) w:=by
 obtain ⟨bs,Z,hW,hI⟩:=hinv;unfold evOne at he;split at he
 ·rename_i hdst
  have hd:∀d,o.dst=some d→d<N:=by
   intro d hd;rw [hd] at hdst;simpa [dstOk] using hdst
  split at he
  ·simp at he
  ·rename_i hg
   have hgn:o.guard=none:=by
    unfold guardOf at hg;split at hg
    ·rename_i e;exact e
    ·split at hg
     ·split at hg<;>simp at hg
     ·simp at hg
   have hwant:Region.wanted o (yielded ops a.tmps)=true:=by simp [Region.wanted,hgn]
   rw [if_pos hwant];split at he
   ·simp only [Zc,Ze] at he;obtain ⟨⟨v,T1,H1,qs⟩,h1,rfl,rfl,rfl⟩:=he;refine wp_to_in (evEff_nd h1) ro (evEff_sound hT hW hI h1 hp next Q ?_);intro c bs' Z' w' hW' hI' hv;exact hn _ _ ⟨bs',Z',hW',hI'.put hd hv⟩
   ·split at he
    ·split at he
     ·simp only [Zc,Ze] at he;obtain ⟨⟨v,T1,H1,qs⟩,h1,rfl,rfl,rfl⟩:=he;refine evHC_sound hW hI h1 hp ro next Q ?_;intro c bs' Z' w' hW' hI' hv;exact hn _ _ ⟨bs',Z',hW',hI'.put hd hv⟩
     ·simp at he
    simp only [Zc,Ze] at he;obtain ⟨⟨v,qs⟩,h1,rfl,rfl,rfl⟩:=he;refine wp_to_in (evPure_nd h1) ro (evPure_sound hT hW (getV_sound hI) h1 hp next Q ?_);intro c w' Z' hg hv;exact hn _ _ ⟨bs,Z',hW.grow hg,(hI.mono (fun _ _ h=>h) hg.zs (fun b hb=>hg.heap b (hW.zlt b hb))).put hd hv⟩
  ·rename_i g hg;split at he
   ·simp at he
   ·
    have hyield:∃j want,o.guard=some (j,want)∧(g=true→yielded ops a.tmps j=some want)∧(g=false→yielded ops a.tmps j≠some want):=by
     unfold guardOf at hg;split at hg
     ·simp at hg
     ·rename_i j want hog;refine ⟨j,want,hog,?_⟩;split at hg
      ·rename_i d hdj
       have hdj':(ops[j]?).bind (·.dst)=some d:=by
        simp only [Zj,Zc,Array.getElem?_toList] at hdj;obtain ⟨oj,h2,h3⟩:=hdj;simp [h2,h3]
       have hval:∀{u:V},T.lookup d=some u→d<N∧RV bs Z w u (a.tmps.getD d undef):=fun hl=>hI.rel d _ (mem_of_lookup hl)
       have hy:∀c,d<N→a.tmps.getD d undef=c→yielded ops a.tmps j=(match c with | .bool b=>some b|_=>none):=by
        intro c hlt hc
        have:a.tmps[d]? = some c:=by
         rw [←hc,Zu];have:d<a.tmps.size:=by rw [hI.size];exact hlt
         simp [this]
        simp only [yielded,hdj',Za,this];cases c<;>rfl
       split at hg
       ·rename_i b hl;simp at hg;subst hg;obtain ⟨hlt,hr⟩:=hval hl;have:=hy _ hlt hr.bool;simp only at this;rw [this];cases want<;>cases b<;>simp
       ·rename_i g1 b hl;simp at hg;subst hg;obtain ⟨hlt,hr⟩:=hval hl;generalize hc:a.tmps.getD d undef=c at hr;cases hr with|when _ _ _ h2 h3 =>
        cases g1 with
        | true =>
         have:=hy _ hlt (hc.trans (h2 rfl).bool);simp only at this;rw [this];cases want<;>cases b<;>simp
        | false =>
         have:=hy _ hlt (hc.trans (h3 rfl));simp only [undef] at this;rw [this];simp
       ·simp at hg
      ·simp at hg
    obtain ⟨j,want,hog,hy1,hy2⟩:=hyield
    have hwant:Region.wanted o (yielded ops a.tmps)=g:=by
     simp only [Region.wanted,hog];cases g with
     | true=>simp [hy1 rfl]
     | false=>have:=hy2 rfl;simp [this]
    rw [hwant];split at he
    ·rename_i ids r H2 Hn _;simp only [Zc,Ze] at he;obtain ⟨⟨v',Hq,qs⟩,h1,rfl,rfl,rfl⟩:=he;unfold evGC at h1;split at h1
     case h_2=>simp at h1
     rename_i Hs hHs;split at h1
     case isFalse=>simp at h1
     rename_i hall;simp only [Zc,Ze] at h1;obtain ⟨⟨v,T1,H1,ps1⟩,h2,rfl,rfl,rfl⟩:=h1;cases g with
     | false =>
      simp only [Zk,if_false];have e:H=Hn:=hp (false=false→H=Hn) (ZN _ (Zz _ (Yb ..))) rfl;subst e;exact hn _ _ ⟨bs,Z,hW,hI.put hd (.when _ _ _ (fun h=>by simp at h) (fun _=>rfl))⟩
     | true =>
      simp only [if_true];have e2:H1=Hn:=hp (true=true→H1=Hn) (ZN _ (Yb ..)) rfl;have e1:=evHC_T h2 hHs;have hps:∀p∈ps1,p:=fun p hp'=>hp (true=true→p) (ZN _ (Zz _ (Zz _ (ZX.2 ⟨p,hp',rfl⟩)))) rfl
      have hIb:InvT N Γ (bareT o.op.operands.toList T++T) bs Z a w:=by
       refine ⟨hI.size,hI.defers,fun i x hx=>?_⟩;rcases Z4.1 hx with hx|hx
       ·simp only [bareT,Yn] at hx;obtain ⟨y,hy,hx⟩:=hx;split at hx
        ·rename_i t;simp only [Zc,Ze] at hx;obtain ⟨u,hu,rfl,rfl⟩:=hx;have hr:=hI.rel t u (mem_of_lookup hu);refine ⟨hr.1,hr.2.bare fun b hb=>?_⟩
         have:(true=true→b=true):=hp _ (Z7 _ (ZX.2 ⟨b,by
          simp only [condsOf,List.mem_flatMap]
          exact ⟨.tmp t,hy,by simpa [getV,hu] using hb⟩,rfl⟩))
         exact this rfl
        ·simp at hx
       ·exact hI.rel i x hx
      refine evHC_sound hW hIb h2 hps ro next Q ?_;intro c bs' Z' w' hW' hI' hv;rw [e2] at hW';rw [e1] at hI'
      have hI2:InvT N Γ T bs' Z' a w':=⟨hI'.size,hI'.defers,fun i x hx=>by
       have:=hI'.rel i (x.only (stayIds (ids.map (·.1)) Hs)) (ZX.2 ⟨(i,x),ZN _ hx,rfl⟩);rw [only_ids _ x (fun k _=>stay_all hall k)] at this
       exact this⟩
      exact hn _ _ ⟨bs',Z',hW',hI2.put hd (.when _ _ _ (fun _=>hv) (fun h=>by simp at h))⟩
    simp only [Zc,Ze] at he;obtain ⟨⟨v',qs⟩,h1,rfl,rfl,rfl⟩:=he;obtain ⟨v,rfl,hnd,hyy⟩:=evGuard_sound hT h1 hp;cases g with
    | false =>
     simp only [Zk,if_false];exact hn _ _ ⟨bs,Z,hW,hI.put hd (.when _ _ _ (fun h=>by simp at h) (fun _=>rfl))⟩
    | true =>
     simp only [if_true];refine wp_to_in hnd ro (hyy rfl hW (getV_sound hI) next Q ?_);intro c w' Z' hg' hv;exact hn _ _ ⟨bs,Z',hW.grow hg',(hI.mono (fun _ _ h=>h) hg'.zs (fun b hb=>hg'.heap b (hW.zlt b hb))).put hd (.when _ _ _ (fun _=>hv) (fun h=>by simp at h))⟩
 ·simp at he
theorem evOps_sound (hT:Tab.ok P tt) {ro:Option Nat} {ops:Array Oper} {Q:Exit→Act→World→Prop} {Γ:Ctx}:∀(os:List Oper) (k:Nat) (hs:List Hint) (T:St) (H:List O) (T':St) (H':List O) (ps:List Prop),
 ops.toList.drop k=os→evOps P tt N (ops.toList.map (·.dst)) os hs T H=some (T',H',ps)→(∀p∈ps,p)→∀a w,Inv N Γ T H a w→(∀a' w',Inv N Γ T' H' a' w'→Q .normal a' w') →
 wpOpsIn (wideAt ro) 0 P ops Q (List.range' k os.length) a w:=by
 intro os;induction os with
 | nil =>
  intro k hs T H T' H' ps hd he hp a w hi hq;simp [evOps] at he;obtain ⟨rfl,rfl,rfl⟩:=he;simpa [wpOpsIn] using hq a w hi
 | cons o os ih =>
  intro k hs T H T' H' ps hd he hp a w hi hq
  have hk:ops[k]? = some o:=by
   have:=congrArg (·[0]?) hd;simpa using this
  have hd':ops.toList.drop (k+1)=os:=by
   have:=congrArg List.tail hd;simpa using this
  unfold evOps at he;split at he
  ·simp at he
  ·rename_i T1 H1 p1 h1;split at he
   ·simp at he
   ·rename_i T2 H2 qs h2;simp at he;obtain ⟨rfl,rfl,rfl⟩:=he;rw [ZF,List.range'_succ];simp only [wpOpsIn,hk]
    have:=evOne_sound (P:=P) (N:=N) hT (ops:=ops) (ro:=ro) (Q:=Q) (next:=wpOpsIn (wideAt ro) 0 P ops Q (List.range' (k+1) os.length)) h1 (fun p hp'=>hp p (Z7 _ hp')) hi
     (fun a' w' hi'=>ih (k+1) hs.tail T1 H1 T2 H2 qs hd' h2 (fun p hp'=>hp p (ZN _ hp')) a' w' hi' hq)
    split at this
    ·rename_i hw;rw [if_pos hw];exact this
    ·rename_i hw;rw [if_neg hw];exact ⟨fun _ _=>trivial,this⟩
def awp (P:Program) (rd:Bool) (N fl:Nat) (c:Code) (Q:Exit→St→List O→Prop) (T:St) (H:List O):Prop :=
 ∀ro:Option Nat,ro.isSome=rd→∀Γ a w,Γ.n0≤fl→Inv N Γ T H a w→c.wpIn (wideAt ro) 0 P (fun e a' w'=>∃T' H',Q e T' H'∧Inv N Γ T' H' a' w') a w
def thenQ (next:St→List O→Prop) (Q:Exit→St→List O→Prop):Exit→St→List O→Prop
 | .normal,T,H=>next T H
 | e,T,H=>Q e T H
variable {Q:Exit→St→List O→Prop}
theorem awp_seq {x y:Code} (h:awp P rd N fl x (thenQ (awp P rd N fl y Q) Q) T H):awp P rd N fl (.seq x y) Q T H:=by
 intro ro hro Γ a w hm hi;refine wpIn_seq (wpIn_mono (h ro hro Γ a w hm hi) ?_);rintro e a' w' ⟨T',H',hq,hi'⟩;cases e with
 | normal=>exact hq ro hro Γ a' w' hm hi'
 | _=>exact ⟨T',H',hq,hi'⟩
theorem awp_region (hT:Tab.ok P tt) {id:Nat} {ops:Array Oper} {hs:List Hint} {ks:List Nat} (he:evReg P tt N ops hs ks T H=some (T',H',ps)) (hp:AllP ps) (hq:Q .normal T' H') :
 awp P rd N fl (.region id ops false) Q T H:=by
 intro ro hro Γ a w hm hi;unfold evReg at he;simp only [Zc,Ze] at he;obtain ⟨⟨T1,H1,qs⟩,h1,rfl,rfl,rfl⟩:=he;refine wpIn_region ?_;rw [List.range_eq_range',show ops.size=ops.toList.length by simp];refine evOps_sound hT ops.toList 0 hs T H T1 H1 qs rfl h1 hp.mem a w hi ?_;intro a' w' hi';exact ⟨_,_,hq,hi'.keep ks⟩
theorem awp_sreg (hT:Tab.ok P tt) {id:Nat} {ops:Array Oper} {y:Code} {hs:List Hint} {ks:List Nat} (T':St) (H':List O) (ps:List Prop) (he:evReg P tt N ops hs ks T H=some (T',H',ps)) (hp:AllP ps)
 (hq:awp P rd N fl y Q T' H'):awp P rd N fl (.seq (.region id ops false) y) Q T H:=awp_seq (awp_region hT he hp hq)
theorem awp_skip (h:Q .normal T H):awp P rd N fl .skip Q T H:=fun ro hro Γ a w hm hi=>wpIn_skip ⟨T,H,h,hi⟩
theorem awp_exit {id:Nat} (h:Q (.exit id) T H):awp P rd N fl (.exit id) Q T H:=fun ro hro Γ a w hm hi=>wpIn_exit ⟨T,H,h,hi⟩
theorem awp_ret (h:Q .ret T H):awp P rd N fl .ret Q T H:=fun ro hro Γ a w hm hi=>wpIn_ret ⟨T,H,h,hi⟩
theorem awp_label {l:Nat} (h:Q .normal T H):awp P rd N fl (.label l) Q T H:=fun ro hro Γ a w hm hi=>wpIn_label ⟨T,H,h,hi⟩
theorem awp_cond {c:Operand} {x y:Code} {b:Bool} (hc:getV T c=vb b) (h1:b=true→awp P rd N fl x Q T H) (h2:b=false→awp P rd N fl y Q T H):awp P rd N fl (.cond c x y) Q T H:=by
 intro ro hro Γ a w hm hi;obtain ⟨bs,Z,hW,hI⟩:=hi;have:=getV_sound hI c;rw [hc] at this;exact wpIn_cond_split this.bool (fun h=>h1 h ro hro Γ a w hm ⟨bs,Z,hW,hI⟩) (fun h=>h2 h ro hro Γ a w hm ⟨bs,Z,hW,hI⟩)
def blockQ (id:Nat) (Q:Exit→St→List O→Prop):Exit→St→List O→Prop
 | .exit id',T,H=>if id'=id then Q .normal T H else Q (.exit id') T H
 | e,T,H=>Q e T H
theorem awp_block {id:Nat} {c:Code} (h:awp P rd N fl c (blockQ id Q) T H):awp P rd N fl (.block id c) Q T H:=by
 intro ro hro Γ a w hm hi;refine wpIn_block (wpIn_mono (h ro hro Γ a w hm hi) ?_);rintro e a' w' ⟨T',H',hq,hi'⟩;cases e with
 | exit id' =>
  simp only [blockQ] at hq;simp only [Exit.inBlock];split at hq
  ·rename_i e;rw [if_pos e];exact ⟨T',H',hq,hi'⟩
  ·rename_i e;rw [if_neg e];exact ⟨T',H',hq,hi'⟩
 | _=>exact ⟨T',H',hq,hi'⟩
def awpN (P:Program) (rd:Bool) (N fl:Nat) (c:Code) (Q:Exit→St→List O→Prop) (n:Nat) (T:St) (H:List O):Prop :=
 ∀ro:Option Nat,ro.isSome=rd→∀Γ a w,Γ.n0≤fl→Inv N Γ T H a w→Code.roundsIn (wideAt ro) 0 P c (fun e a' w'=>∃T' H',Q e T' H'∧Inv N Γ T' H' a' w') n a w
theorem awpN_succ {c:Code} {n:Nat} (h:awp P rd N fl c (thenQ (awpN P rd N fl c Q n) Q) T H):awpN P rd N fl c Q (n+1) T H:=by
 intro ro hro Γ a w hm hi;rw [roundsIn_succ];refine wpIn_mono (h ro hro Γ a w hm hi) ?_;rintro e a' w' ⟨T',H',hq,hi'⟩;cases e with
 | normal=>exact hq ro hro Γ a' w' hm hi'
 | _=>exact ⟨T',H',hq,hi'⟩
theorem awp_loop {c:Code} {n:Nat} (h:awpN P rd N fl c Q n T H):awp P rd N fl (.loop c) Q T H:=fun ro hro Γ a w hm hi=>wpIn_loop_rounds n (h ro hro Γ a w hm hi)
theorem awp_mono {c:Code} {Q':Exit→St→List O→Prop} (h:awp P rd N fl c Q T H) (hq:∀e T H,Q e T H→Q' e T H):awp P rd N fl c Q' T H:=by
 intro ro hro Γ a w hm hi;refine wpIn_mono (h ro hro Γ a w hm hi) ?_;rintro e a' w' ⟨T',H',h1,h2⟩;exact ⟨T',H',hq _ _ _ h1,h2⟩
end region
end Go.Sx
end
section
namespace Go.Sx
open Go
set_option linter.unusedSimpArgs false
set_option linter.unusedVariables false
section rules
variable {P:Program} {tt:Tab} {rd:Bool} {N fl:Nat} {T T':St} {H H':List O} {ps:List Prop} {Q:Exit→St→List O→Prop} {Γ:Ctx} {a:Act} {w:World}
def wkT (n:Nat) (ks:List Nat) (T:St):St:=keepT ks (onlyT (fun i=>Nat.blt i n) T)
def wkH (n:Nat) (H:List O):List O:=onlyH (fun i=>Nat.blt i n) (H.take n)
theorem Inv.wk (h:Inv N Γ T H a w) (n:Nat) (ks:List Nat) (hn:Γ.n0≤n):Inv N Γ (wkT n ks T) (wkH n H) a w:=by
 obtain ⟨bs,Z,hW,hI⟩:=h
 have hb:∀(i:Nat) (o:Option (Nat×Nat)),(Nat.blt i n)=true→bs[i]? = some o→(bs.take n)[i]? = some o:=by
  intro i o hi h;rw [Zr,if_pos (by simpa using hi)];exact h
 have hsub:∀(i:Nat) (q:Option (Nat×Nat)),(bs.take n)[i]? = some q→bs[i]? = some q:=by
  intro i q h;rw [Zr] at h;split at h
  ·exact h
  ·simp at h
 refine Inv.keep ⟨bs.take n,Z,?_,hI.only _ hb⟩ ks;constructor
 ·simp [wkH,onlyH,hW.lenH]
 ·intro i o q ho hq;simp only [wkH,onlyH,Zj,Zc] at ho;obtain ⟨o',ho',rfl⟩:=ho;rw [Zr] at ho';split at ho'
  ·exact (hW.objs i o' q ho' (hsub i q hq)).only _ hb
  ·simp at ho'
 ·intro i j b k k' hi hj;exact hW.nodup i j b k k' (hsub _ _ hi) (hsub _ _ hj)
 ·intro i b k hi;exact hW.disj i b k (hsub _ _ hi)
 ·intro i b k hi;exact hW.lt i b k (hsub _ _ hi)
 ·exact hW.zlt
 ·exact hW.z0
 ·intro i b k hi;exact hW.fresh i b k (hsub _ _ hi)
 ·exact hW.zfresh
 ·exact hW.size
 ·exact hW.frame
 ·exact hW.os
 ·exact hW.tape
 ·exact hW.output
 ·intro i p hp;obtain ⟨h1,o,h2,h3⟩:=hW.pin i p hp;have hi:i<n:=Yg (Γ.pinlt i p hp) hn;exact ⟨by rw [Zr,if_pos hi];exact h1,o.only (fun i=>Nat.blt i n),by simp only [wkH,onlyH,Zj,Zr,if_pos hi,h2,Zo],by rw [only_isData];exact h3⟩
theorem awp_wk {c:Code} (n:Nat) (ks:List Nat) (hfl:Nat.ble fl n=true) (T':St) (H':List O) (hT:wkT n ks T=T') (hH:wkH n H=H') (h:awp P rd N fl c Q T' H'):awp P rd N fl c Q T H:=by
 subst hT;subst hH;exact fun ro hro Γ a w hm hi=>h ro hro Γ a w hm (hi.wk n ks (Z3 hm (Zp hfl)))
theorem awpN_wk {c:Code} {m:Nat} (n:Nat) (ks:List Nat) (hfl:Nat.ble fl n=true) (T':St) (H':List O) (hT:wkT n ks T=T') (hH:wkH n H=H') (h:awpN P rd N fl c Q m T' H'):awpN P rd N fl c Q m T H:=by
 subst hT;subst hH;exact fun ro hro Γ a w hm hi=>h ro hro Γ a w hm (hi.wk n ks (Z3 hm (Zp hfl)))
def Wk (fl:Nat) (Q:Exit→St→List O→Prop):Exit→St→List O→Prop:=fun e T H=>∃n ks T' H',Nat.ble fl n=true∧wkT n ks T=T'∧wkH n H=H'∧Q e T' H'
theorem awp_wkQ {c:Code} (h:awp P rd N fl c (Wk fl Q) T H):awp P rd N fl c Q T H:=by
 intro ro hro Γ a w hm hi;refine wpIn_mono (h ro hro Γ a w hm hi) ?_;rintro e a' w' ⟨T',H',⟨n,ks,T2,H2,hfl,rfl,rfl,hq⟩,hi'⟩;exact ⟨_,_,hq,hi'.wk n ks (Z3 hm (Zp hfl))⟩
theorem awp_nil {c:Code} (k e:Nat) (hk:T.lookup k=some (.d (.v (.slice none 0 0)))) (h:awp P rd N fl c Q (putT (some k) (.sl e H.length 0 0) T) (H++[.data []])):awp P rd N fl c Q T H:=by
 intro ro hro Γ a w hm hi;obtain ⟨bs,Z,hW,hI⟩:=hi;refine h ro hro Γ a w hm ⟨bs++[none],Z,?_,?_⟩
 ·have hcase:∀(i:Nat) (q:Nat×Nat),(bs++[none])[i]? = some (some q)→bs[i]? = some (some q):=by
   intro i q h;rw [ZA] at h;split at h
   ·exact h
   ·rename_i hge;rcases Yc (i-bs.length) with h0|h0
    ·rw [h0] at h;simp at h
    ·rw [ZC (by simp;omega)] at h;simp at h
  constructor
  ·simp [hW.lenH]
  ·intro i o q ho hq;rw [ZA] at ho hq;rw [←hW.lenH] at ho;split at ho
   ·rename_i hlt;rw [if_pos hlt] at hq;exact (hW.objs i o q ho hq).mono bs_push (fun _ h=>h) (fun _ _=>rfl) (fun _ _ _=>rfl)
   ·rename_i hlt;rw [if_neg hlt] at hq;rcases Yc (i-bs.length) with h0|h0
    ·rw [h0] at ho hq;simp at ho hq;subst ho;subst hq;rfl
    ·rw [ZC (by simp;omega)] at ho;simp at ho
  ·intro i j b k k' hi hj;exact hW.nodup i j b k k' (hcase _ _ hi) (hcase _ _ hj)
  ·intro i b k hi;exact hW.disj i b k (hcase _ _ hi)
  ·intro i b k hi;exact hW.lt i b k (hcase _ _ hi)
  ·exact hW.zlt
  ·exact hW.z0
  ·intro i b k hi;exact hW.fresh i b k (hcase _ _ hi)
  ·exact hW.zfresh
  ·exact hW.size
  ·exact hW.frame
  ·exact hW.os
  ·exact hW.tape
  ·exact hW.output
  ·intro i p hp;obtain ⟨h1,o,h2,h3⟩:=hW.pin i p hp;exact ⟨bs_push _ _ h1,o,by rw [ZT (Zb.1 h2).1];exact h2,h3⟩
 ·have hkm:=mem_of_lookup hk;have hr:=hI.rel k _ hkm;have hI':=hI.mono (bs':=bs++[none]) bs_push (fun _ h=>h) (fun _ _=>rfl);refine ⟨hI'.size,hI'.defers,fun i x hx=>?_⟩;simp only [putT,ZM,Ze,Ym] at hx;rcases hx with ⟨rfl,rfl⟩|⟨hx,_⟩
  ·refine ⟨hr.1,?_⟩;rw [hr.2.lit];exact .sl0 e _ (bs_last hW _)
  ·exact hI'.rel i x hx
def V.fz (id:Nat) (ds:List D):V→Option (V×List Prop)
 | .sl e id' off n=>if id'==id&&off==0 then some (.d (.list false e n ds),[ds.length=n*e]) else none
 | .ref id' off=>if id'==id then some (.d (.optr true (ds.drop off)),[]) else none
 | _=>none
def fzL (id:Nat) (ds:List D):List V→Option (List V×List Prop)
 | []=>some ([],[])
 | v::vs =>
  match fzL id ds vs with
  | none=>none
  | some (us,ps) =>
   match V.fz id ds v with
   | some (u,qs)=>some (u::us,qs++ps)
   | none=>some (V.only (fun i=>i != id) v::us,ps)
def V.freeze (id:Nat) (ds:List D):V→Option (V×List Prop)
 | .agg cs=>(fzL id ds cs).map fun q=>(mkAgg q.1,q.2)
 | v=>V.fz id ds v
theorem RD.ofRow {ds:List D} {e n b cap k:Nat} {cs:Array Value} {ty:TypeId} {Z:Nat→Prop} (h:w.heap[b]? = some (.cells cs ty (0,0))) (hR:RDL Z w ds (cs.toList.take ds.length)) (hle:ds.length≤cs.size) (hn:n≤cap) (hl:ds.length=n*e) :
 RD (fun c=>Z c∨c=b) w (.list false e n ds) (.slice (some ⟨b,0,none⟩) n cap):=by
 by_cases h0:n=0
 ·subst h0;have:ds=[]:=ZO (by simpa using hl);subst this;exact .list0 _ _ _ _ (by simp)
 ·have hlen:(cs.toList.take ds.length).length=ds.length:=hR.1;refine .list false e n ds _ cap (fun j=>(cs.toList.take ds.length).getD j undef) (by omega) hl (.inr rfl) hn (by simp) (fun j hj=>?_) (fun j hj=>?_) (fun j z hz=>?_)
  ·rw [cell_at h];simp [List.getD,Zr,hj,show j<cs.size by omega]
  ·have:=(hR.2 j ds[j] _ (Zd hj) (Zd (by omega))).1;rw [Zv,Zd (by omega)];exact this
  ·have hj:j<ds.length:=(Zb.1 hz).1;have:=(hR.2 j z _ hz (Zd (by omega))).2;rw [Zv,Zd (by omega)];exact this.mono (fun _ h => .inl h) (fun _ _=>rfl)
theorem freeze_core {Γ:Ctx} {a:Act} {w:World} {bs:Bs} {Z:Nat→Prop} (hW:InvW Γ H bs Z w) (hI:InvT N Γ T bs Z a w) (id:Nat) (ds:List D) (hid:H[id]? = some (.data ds)) :
 ∃Z':Nat→Prop,InvW Γ ((onlyH (· != id) H).set id (.data [])) (bs.set id none) Z' w∧InvT N Γ (onlyT (· != id) T) (bs.set id none) Z' a w ∧
  ∀(v v':V) (c:Value) (ps:List Prop),v.freeze id ds=some (v',ps)→(∀p∈ps,p)→RV bs Z w v c→RV (bs.set id none) Z' w v' c:=by
 have hidlt:id<bs.length:=by rw [hW.lenH];exact (Zb.1 hid).1

 obtain ⟨q,hq⟩:∃q,bs[id]? = some q:=⟨_,Zd hidlt⟩
 let Z':Nat→Prop:=fun b=>Z b∨∃k,q=some (b,k)
 have hset:∀(i:Nat) (p:Nat×Nat),(bs.set id none)[i]? = some (some p)→i≠id∧bs[i]? = some (some p):=by
  intro i p h;rw [Zn] at h;split at h
  ·rename_i e;subst e;simp at h
  ·rename_i e;exact ⟨fun e'=>e e'.symm,h⟩
 have hkeep:∀(i:Nat) (o:Option (Nat×Nat)),(i != id)=true→bs[i]? = some o→(bs.set id none)[i]? = some o:=fun i o hi hb=>bs_set_keep i o hi hb;have hZ:∀b,Z b→Z' b:=fun b hb => .inl hb
 have hone:∀{e off n:Nat} {c:Value} {u:V} {qs:List Prop},V.fz id ds (.sl e id off n)=some (u,qs)→(∀p∈qs,p)→RV bs Z w (.sl e id off n) c→RV (bs.set id none) Z' w u c:=by
  intro e off n c u qs hf hqs hr;simp only [V.fz] at hf;split at hf
  ·rename_i hc;simp at hc hf;obtain ⟨rfl,rfl⟩:=hf;subst hc;have hl:ds.length=n*e:=hqs _ (Zq.2 rfl);have hob:=hW.objs id _ _ hid hq;cases hr with
   | sl _ _ _ _ b k cap hb hcap hkk hmm =>
    rw [hq] at hb;simp at hb;subst hb;obtain ⟨cs,ty,g1,g2,g3,g4⟩:=hW.row (show rowAt H id=some (ds.map .d) by simp [rowAt,hid,O.row]) hq;rw [Zg] at g4 g2;refine .d _ _ ((RD.ofRow (k:=k) g1 g4.toD g2 hcap hl).mono (fun b' hb'=>?_) (fun _ _=>rfl));rcases hb' with h|h
    ·exact .inl h
    ·subst h;exact .inr ⟨k,rfl⟩
   | sl0 _ _ hb =>
    have:=hW.row0 (show rowAt H id=some (ds.map .d) by simp [rowAt,hid,O.row]) hb;have:ds=[]:=by simpa using this
    subst this;exact .d _ _ (.list0 _ _ _ _ (by simp))
  ·simp at hf
 have hptr:∀{off:Nat} {c:Value},RV bs Z w (.ref id off) c→RV (bs.set id none) Z' w (.d (.optr true (ds.drop off))) c:=by
  intro off c hr;cases hr with|ref _ _ b k hb =>
  rw [hq] at hb;simp at hb;subst hb;obtain ⟨cs,ty,g1,g2,g3,g4⟩:=hW.row (show rowAt H id=some (ds.map .d) by simp [rowAt,hid,O.row]) hq;rw [Zg] at g4 g2;have hR:RDL Z w (ds.drop off) ((cs.toList.take ds.length).drop off):=g4.toD.drop off;refine .d _ _ (.optr _ _ (fun j=>((cs.toList.take ds.length).drop off).getD j undef) (.inr ⟨k,rfl⟩) (fun j hj=>?_) (fun j hj=>?_) (fun j z hz=>?_))
  ·rw [Z8] at hj;rw [cell_at g1];simp [List.getD,Zr,ZK,show off+j<ds.length by omega,show off+j<cs.size by omega]
  ·have hj':j<((cs.toList.take ds.length).drop off).length:=by rw [hR.1];exact hj
   have:=(hR.2 j (ds.drop off)[j] _ (Zd hj) (Zd hj')).1;rw [Zv,Zd hj'];exact this
  ·have hj:j<(ds.drop off).length:=(Zb.1 hz).1;have hj':j<((cs.toList.take ds.length).drop off).length:=by rw [hR.1];exact hj
   have:=(hR.2 j z _ hz (Zd hj')).2;rw [Zv,Zd hj'];exact this.mono hZ (fun _ _=>rfl)
 have hfz:∀{x:V} {c:Value} {u:V} {qs:List Prop},V.fz id ds x=some (u,qs)→(∀p∈qs,p)→RV bs Z w x c→RV (bs.set id none) Z' w u c:=by
  intro x c u qs hf hqs hr;cases x with
  | sl e id' off n =>
   have:id'=id:=by
    simp only [V.fz] at hf;split at hf
    ·rename_i hc;simp at hc;exact hc.1
    ·simp at hf
   subst this;exact hone hf hqs hr
  | ref id' off =>
   simp only [V.fz] at hf;split at hf
   ·rename_i hc;simp at hc hf;subst hc;obtain ⟨rfl,rfl⟩:=hf;exact hptr hr
   ·simp at hf
  | _=>simp [V.fz] at hf
 have honly:∀{x:V} {c:Value},RV bs Z w x c→RV (bs.set id none) Z' w (V.only (fun i=>i != id) x) c:=fun h=>(h.only _ hkeep).mono (fun _ _ h=>h) hZ (fun _ _=>rfl)
 have hfzL:∀(xs:List V) (us:List V) (qs:List Prop) (cs:List Value),fzL id ds xs=some (us,qs)→(∀p∈qs,p)→RVL bs Z w xs cs→RVL (bs.set id none) Z' w us cs:=by
  intro xs;induction xs with
  | nil =>
   intro us qs cs hf hqs hr;simp [fzL] at hf;obtain ⟨rfl,rfl⟩:=hf;have:cs=[]:=ZO hr.1;subst this;exact RVL.nil
  | cons x xs ih =>
   intro us qs cs hf hqs hr;cases cs with
   | nil=>have:=hr.1;simp at this
   | cons c cs =>
    have h0:=hr.2 0 x c rfl rfl;have hr':RVL bs Z w xs cs:=⟨by have:=hr.1;simpa using this,fun j y d hy hd=>hr.2 (j+1) y d (by simpa using hy) (by simpa using hd)⟩
    unfold fzL at hf;split at hf
    ·simp at hf
    ·rename_i us' ps' hrest;split at hf
     ·rename_i u qs' hu;simp at hf;obtain ⟨rfl,rfl⟩:=hf;exact RVL.cons h0.1 (hfz hu (fun p hp=>hqs p (Z7 _ hp)) h0.2) (ih _ _ _ hrest (fun p hp=>hqs p (ZN _ hp)) hr')
     ·simp at hf;obtain ⟨rfl,rfl⟩:=hf;exact RVL.cons h0.1 (honly h0.2) (ih _ _ _ hrest hqs hr')
 refine ⟨Z',?_,?_,?_⟩
 ·constructor
  ·simp [onlyH,hW.lenH]
  ·intro i o p ho hb;rw [Zn] at ho hb;split at ho
   ·rename_i e;subst e;rw [if_pos rfl,if_pos hidlt] at hb;split at ho<;>simp at ho hb;subst ho;subst hb;rfl
   ·rename_i e;rw [if_neg e] at hb;simp only [onlyH,Zj,Zc] at ho;obtain ⟨o',ho',rfl⟩:=ho;exact ((hW.objs i o' p ho' hb).only _ hkeep).mono (fun _ _ h=>h) hZ (fun _ _=>rfl) (fun _ _ _=>rfl)
  ·intro i j b k k' hi hj;exact hW.nodup i j b k k' (hset _ _ hi).2 (hset _ _ hj).2
  ·intro i b k hi hz;obtain ⟨hne,hi⟩:=hset _ _ hi;rcases hz with hz|⟨k',rfl⟩
   ·exact hW.disj i b k hi hz
   ·exact hne (hW.nodup i id b k k' hi hq)
  ·intro i b k hi;exact hW.lt i b k (hset _ _ hi).2
  ·intro b hb;rcases hb with hb|⟨k',rfl⟩
   ·exact hW.zlt b hb
   ·exact hW.lt id b k' hq
  ·intro b hb;exact .inl (hW.z0 b hb)
  ·intro i b k hi;exact hW.fresh i b k (hset _ _ hi).2
  ·intro b hb;rcases hb with hb|⟨k',rfl⟩
   ·exact hW.zfresh b hb
   ·exact .inr (hW.fresh id b k' hq)
  ·exact hW.size
  ·exact hW.frame
  ·exact hW.os
  ·exact hW.tape
  ·exact hW.output
  ·intro i p hp;obtain ⟨h1,o,h2,h3⟩:=hW.pin i p hp;have hne:id≠i:=fun e=>by subst e;rw [hid] at h2;simp at h2;subst h2;simp [O.isData] at h3
   exact ⟨by rw [Zn,if_neg hne];exact h1,o.only (· != id),by rw [Zn,if_neg hne];simp only [onlyH,Zj,h2,Zo],by rw [only_isData];exact h3⟩
 ·exact (hI.only (fun i=>i != id) hkeep).mono (bs':=bs.set id none) (fun _ _ h=>h) hZ (fun _ _=>rfl)
 ·intro v v' c ps hv hp hr;unfold V.freeze at hv;split at hv
  ·rename_i cs;simp only [Zc,Ze] at hv;obtain ⟨⟨us,qs⟩,h1,rfl,rfl⟩:=hv;obtain ⟨ca,hca,hcl⟩:=hr.aggL;rw [hca];have:=RV.mkAgg (hfzL cs us qs ca.toList h1 hp hcl);simpa using this
  ·exact hfz hv hp hr
theorem awp_data {c:Code} (id:Nat) (xs:List V) (ds:List D) (H':List O) (hfl:Nat.ble fl id=true) (hid:H[id]? = some (.cells xs)) (hx:xs=ds.map .d) (hH':H.set id (.data ds)=H') (h:awp P rd N fl c Q T H'):awp P rd N fl c Q T H:=by
 subst hH';subst hx;intro ro hro Γ a w hm hi;obtain ⟨bs,Z,hW,hI⟩:=hi;refine h ro hro Γ a w hm ⟨bs,Z,?_,hI⟩;have hidlt:id<H.length:=(Zb.1 hid).1;constructor
 ·simp [hW.lenH]
 ·intro i o p ho hb;rw [Zn] at ho;split at ho
  ·rename_i e;subst e;simp at ho
   first|subst ho|(obtain ⟨_,rfl⟩:=ho)
   exact okO_data (hW.objs id _ p hid hb)
  ·exact hW.objs i o p ho hb
 ·exact hW.nodup
 ·exact hW.disj
 ·exact hW.lt
 ·exact hW.zlt
 ·exact hW.z0
 ·exact hW.fresh
 ·exact hW.zfresh
 ·exact hW.size
 ·exact hW.frame
 ·exact hW.os
 ·exact hW.tape
 ·exact hW.output
 ·intro i p hp;obtain ⟨h1,o,h2,h3⟩:=hW.pin i p hp;have hlt:=Γ.pinlt i p hp
  have hne:id≠i:=fun e=>by
   subst e;have:=Zp hfl;omega
  exact ⟨h1,o,by rw [Zn,if_neg hne];exact h2,h3⟩
theorem awp_freeze {c:Code} (k id:Nat) (ds:List D) (v v':V) (T':St) (H':List O) (hk:T.lookup k=some v) (hid:H[id]? = some (.data ds)) (hv:v.freeze id ds=some (v',ps)) (hp:AllP ps)
 (hT':putT (some k) v' (onlyT (· != id) T)=T') (hH':(onlyH (· != id) H).set id (.data [])=H') (h:awp P rd N fl c Q T' H'):awp P rd N fl c Q T H:=by
 subst hT';subst hH';intro ro hro Γ a w hm hi;obtain ⟨bs,Z,hW,hI⟩:=hi;obtain ⟨Z',hW',hI',hv'⟩:=freeze_core hW hI id ds hid;refine h ro hro Γ a w hm ⟨bs.set id none,Z',hW',?_⟩;have hr:=hI.rel k _ (mem_of_lookup hk);refine ⟨hI'.size,hI'.defers,fun i x hx=>?_⟩;simp only [putT,ZM,Ze,Ym] at hx;rcases hx with ⟨rfl,rfl⟩|⟨hx,_⟩
 ·exact ⟨hr.1,hv' _ _ _ ps hv hp.mem hr.2⟩
 ·exact hI'.rel i x hx
theorem awp_freezeC {c:Code} (k j id:Nat) (ds:List D) (xs:List V) (v v':V) (T':St) (H':List O) (hk:H[k]? = some (.cells xs)) (hj:xs[j]? = some v) (hid:H[id]? = some (.data ds)) (hv:v.fz id ds=some (v',ps)) (hp:AllP ps)
 (hT':onlyT (· != id) T=T') (hH':((onlyH (· != id) H).set id (.data [])).set k (.cells ((V.onlyL (· != id) xs).set j v'))=H') (h:awp P rd N fl c Q T' H'):awp P rd N fl c Q T H:=by
 subst hT';subst hH';intro ro hro Γ a w hm hi;obtain ⟨bs,Z,hW,hI⟩:=hi;obtain ⟨Z',hW',hI',hv'⟩:=freeze_core hW hI id ds hid;have hne:id≠k:=fun e=>by subst e;rw [hid] at hk;simp at hk
 refine h ro hro Γ a w hm ⟨bs.set id none,Z',?_,hI'⟩
 have hone':∀c:Value,RV bs Z w v c→RV (bs.set id none) Z' w v' c:=by
  intro c hr;refine hv' v v' c ps ?_ hp.mem hr;unfold V.freeze;split
  ·simp [V.fz] at hv
  ·exact hv
 have hk':((onlyH (· != id) H).set id (.data []))[k]? = some (.cells (V.onlyL (· != id) xs)):=by
  rw [Zn,if_neg hne];simp only [onlyH,Zj,hk,Zo,O.only]
 have hklt:=(Zb.1 hk').1;constructor
 ·have:=hW'.lenH;simpa using this
 ·intro i o q ho hq;rw [Zn] at ho;split at ho
  ·rename_i e;subst e;simp only [hklt,if_true,Zf] at ho;subst ho;have hold:=hW'.objs _ _ _ hk' hq;have hq0:bs[k]? = some q:=by rw [Zn,if_neg hne] at hq;exact hq
   have hold0:=hW.objs _ _ _ hk hq0;cases q with
   | none=>simp only [okO] at hold ⊢;rw [hold];simp
   | some q =>
    obtain ⟨b,kk⟩:=q;obtain ⟨cs,t,g1,g2,g3,g4⟩:=hold;obtain ⟨cs0,t0,f1,f2,f3,f4⟩:=hold0;rw [g1] at f1;simp at f1;obtain ⟨rfl,rfl⟩:=f1;refine ⟨cs,t,g1,g2,by simpa using g3,fun n x hx=>?_⟩;rw [Zn] at hx;split at hx
    ·rename_i e;subst e;split at hx<;>simp at hx;subst hx;obtain ⟨c',e1,e2,e3⟩:=f4 j v hj;exact ⟨c',e1,e2,hone' c' e3⟩
    ·exact g4 n x hx
  ·exact hW'.objs _ _ _ ho hq
 ·exact hW'.nodup
 ·exact hW'.disj
 ·exact hW'.lt
 ·exact hW'.zlt
 ·exact hW'.z0
 ·exact hW'.fresh
 ·exact hW'.zfresh
 ·exact hW'.size
 ·exact hW'.frame
 ·exact hW'.os
 ·exact hW'.tape
 ·exact hW'.output
 ·intro i p hp;obtain ⟨h1,o,h2,h3⟩:=hW'.pin i p hp;refine ⟨h1,?_⟩;rw [Zn];split
  ·rename_i e;subst e
   first
    | exact ⟨_,rfl,rfl⟩
    | exact ⟨_,if_pos hklt,rfl⟩
  ·exact ⟨o,h2,h3⟩
theorem awp_same {c:Code} (id:Nat) (o o':O) (xs:List V) (hid:H[id]? = some o) (ho:o.isData=false) (ho':o'.isData=false) (hr:∀bs Z w p,okO bs Z w o p→okO bs Z w o' p) (h:awp P rd N fl c Q T (H.set id o')):awp P rd N fl c Q T H:=by
 intro ro hro Γ a w hm hi;obtain ⟨bs,Z,hW,hI⟩:=hi;refine h ro hro Γ a w hm ⟨bs,Z,?_,hI⟩;have hidlt:id<H.length:=(Zb.1 hid).1;constructor
 ·simp [hW.lenH]
 ·intro i q p ho hb;rw [Zn] at ho;split at ho
  ·rename_i e;subst e;simp at ho
   first|subst ho|(obtain ⟨_,rfl⟩:=ho)
   exact hr _ _ _ _ (hW.objs id _ p hid hb)
  ·exact hW.objs i q p ho hb
 ·exact hW.nodup
 ·exact hW.disj
 ·exact hW.lt
 ·exact hW.zlt
 ·exact hW.z0
 ·exact hW.fresh
 ·exact hW.zfresh
 ·exact hW.size
 ·exact hW.frame
 ·exact hW.os
 ·exact hW.tape
 ·exact hW.output
 ·intro i p hp;obtain ⟨h1,q,h2,h3⟩:=hW.pin i p hp;refine ⟨h1,?_⟩;rw [Zn];split
  ·rename_i e;subst e
   first
    | exact ⟨_,if_pos hidlt,ho'⟩
    | exact ⟨_,rfl,ho'⟩
  ·exact ⟨q,h2,h3⟩
theorem okO_vec {bs:Bs} {Z:Nat→Prop} {w:World} {xs:List V} {ns:List Int} {zs:List V} {p:Option (Nat×Nat)}:okO bs Z w (.cells (vecV xs ns zs)) p↔okO bs Z w (.vec xs ns zs) p:=by
 cases p<;>exact Iff.rfl
theorem awp_vec {c:Code} (id:Nat) (ys xs:List V) (ns:List Int) (zs:List V) (H':List O) (hid:H[id]? = some (.cells ys)) (hy:ys=vecV xs ns zs) (hH':H.set id (.vec xs ns zs)=H') (h:awp P rd N fl c Q T H'):awp P rd N fl c Q T H:=by
 subst hy;subst hH';exact awp_same id _ _ [] hid rfl rfl (fun _ _ _ _ h=>okO_vec.1 h) h
theorem awp_unvec {c:Code} (id:Nat) (xs:List V) (ns:List Int) (zs:List V) (H':List O) (hid:H[id]? = some (.vec xs ns zs)) (hH':H.set id (.cells (vecV xs ns zs))=H') (h:awp P rd N fl c Q T H'):awp P rd N fl c Q T H:=by
 subst hH';exact awp_same id _ _ [] hid rfl rfl (fun _ _ _ _ h=>okO_vec.2 h) h
end rules
section funs
variable {P:Program} {tt:Tab} {rd:Bool} {N fl:Nat} {T:St} {H:List O}
def entryT (args:List D):St:=(args.zipIdx).map fun q=>(q.2,.d q.1)
def entryV (args:List V):St:=(args.zipIdx).map fun q=>(q.2,q.1)
theorem entryT_eq (args:List D):entryT args=entryV (args.map .d):=by
 unfold entryT entryV;rw [List.zipIdx_map,List.map_map];rfl
def cellV (tt:Tab) (T:St) (H:List O) (b t:Nat):Option V :=
 match T.lookup b,tt.lookup t with
 | some (.ref id off),some i =>
  match rowAt H id with
  | some xs=>(takeN i.size (xs.drop off)).bind (mkVal i.agg)
  | none=>none
 | _,_=>none
def resL (tt:Tab) (T:St) (H:List O):List ResultVar→Option (List V)
 | []=>some []
 | .tmp t::rs =>
  match T.lookup t,resL tt T H rs with
  | some v,some vs=>some (v::vs)
  | _,_=>none
 | .cell b t::rs =>
  match cellV tt T H b t,resL tt T H rs with
  | some v,some vs=>some (v::vs)
  | _,_=>none
def resV:List V→V
 | [v]=>v
 | vs => .tup vs
def isData:V→Bool
 | .d _=>true
 | .tup vs=>vs.all fun v=>match v with | .d _=>true|_=>false
 | _=>false
def retQ (tt:Tab) (rs:List ResultVar) (r:V):Exit→St→List O→Prop:=fun e T H=>(e = .ret∨e = .normal)∧(resL tt T H rs).map resV=some r
def retH (tt:Tab) (rs:List ResultVar) (r:V) (H':List O):Exit→St→List O→Prop:=fun e T H=>(e = .ret∨e = .normal)∧(resL tt T H rs).map resV=some r∧H=H'
section
variable {bs:Bs} {Z:Nat→Prop} {a:Act} {w:World} {Γ:Ctx}
theorem cellV_sound (hT:Tab.ok P tt) (hW:InvW Γ H bs Z w) (hI:InvT N Γ T bs Z a w) {b t:Nat} {v:V} (h:cellV tt T H b t=some v) :
 ∃c,(do loadVar t (←asAddr (a.tmps.getD b undef)):Sem Value).run P w = .ok c w∧RV bs Z w v c:=by
 unfold cellV at h;split at h
 ·rename_i id off i hb hi;split at h
  ·rename_i xs hr;rw [Zi] at h;obtain ⟨vs,h1,h2⟩:=h;obtain ⟨h3,h4⟩:=takeN_eq h1;have hv:=(hI.rel b _ (mem_of_lookup hb)).2;generalize hc:a.tmps.getD b undef=c at hv;cases hv with|ref _ _ k q hk =>
   obtain ⟨cs,ty,g1,g2,_,g3⟩:=hW.row hr hk;have g4:=(g3.drop off).take i.size;rw [h3] at g4
   have hsz:i.agg=false→i.size=1:=by
    intro ha;unfold mkVal at h2;simp [ha] at h2;split at h2<;>simp at h2;rw [←h4];rfl
   refine ⟨valOf i.agg ((List.drop off (cs.toList.take xs.length)).take i.size),?_,RV.mkVal g4 h2⟩;simp only [asAddr,Zy,ZJ,Zm];refine run_loadVar hT hi (by rw [g4.1,h4]) hsz (fun j u hu=>?_);rw [cell_at g1];simp only [Zr,ZK] at hu;split at hu
   ·split at hu
    ·simpa using hu
    ·simp at hu
   ·simp at hu
  ·simp at h
 ·simp at h
theorem resL_sound (hT:Tab.ok P tt) (hW:InvW Γ H bs Z w) (hI:InvT N Γ T bs Z a w):∀(rs:List ResultVar) (vs:List V),resL tt T H rs=some vs →
 ∃cs:List Value,(rs.mapM fun (r:ResultVar)=>(match r with | .tmp t=>pure (a.tmps.getD t undef) | .cell b t=>do loadVar t (←asAddr (a.tmps.getD b undef)):Sem Value)).run P w = .ok cs w∧cs.length=vs.length ∧
  ∀(j:Nat) v,vs[j]? = some v→∃c,cs[j]? = some c∧RV bs Z w v c:=by
 intro rs;induction rs with
 | nil=>intro vs h;simp [resL] at h;subst h;exact ⟨[],by simp,rfl,fun j v h=>by simp at h⟩
 | cons r rs ih =>
  intro vs h;unfold resL at h;split at h
  ·simp at *
  ·rename_i t rs' heq;simp at heq;obtain ⟨rfl,rfl⟩:=heq;split at h
   ·rename_i v vs' h1 h2;simp at h;subst h;obtain ⟨cs,h3,h4,h5⟩:=ih vs' h2;refine ⟨a.tmps.getD t undef::cs,by simp only [List.mapM_cons,Zy,ZJ,Zm,h3],by simp [h4],fun j u hu=>?_⟩;cases j with
    | zero=>simp at hu;subst hu;exact ⟨_,rfl,(hI.rel t _ (mem_of_lookup h1)).2⟩
    | succ j=>simp at hu;simpa using h5 j u hu
   ·simp at h
  ·rename_i b t rs' heq;simp at heq;obtain ⟨rfl,rfl⟩:=heq;split at h
   ·rename_i v vs' h1 h2;simp at h;subst h;obtain ⟨cs,h3,h4,h5⟩:=ih vs' h2;obtain ⟨c,k1,k2⟩:=cellV_sound hT hW hI h1;refine ⟨c::cs,by simp only [List.mapM_cons,k1,Zy,ZJ,Zm,h3],by simp [h4],fun j u hu=>?_⟩;cases j with
    | zero=>simp at hu;subst hu;exact ⟨_,rfl,k2⟩
    | succ j=>simp at hu;simpa using h5 j u hu
   ·simp at h
theorem results_run (hT:Tab.ok P tt) (hW:InvW Γ H bs Z w) (hI:InvT N Γ T bs Z a w) {fn:Func} {r:V} (h:(resL tt T H fn.results.toList).map resV=some r):∃c,(results fn a.tmps).run P w = .ok c w∧RV bs Z w r c:=by
 rw [Zc] at h;obtain ⟨vs,h1,h2⟩:=h;obtain ⟨cv,k1,k2,k3⟩:=resL_sound (P:=P) hT hW hI fn.results.toList vs h1
 have hm:(fn.results.mapM fun (r:ResultVar)=>(match r with | .tmp t=>pure (a.tmps.getD t undef) | .cell b t=>do loadVar t (←asAddr (a.tmps.getD b undef)):Sem Value)).run P w = .ok cv.toArray w:=by
  rw [Array.mapM_eq_mapM_toList,Sem.run_map,k1];rfl
 have hres':results fn a.tmps=(fn.results.mapM fun (r:ResultVar)=>(match r with | .tmp t=>pure (a.tmps.getD t undef) | .cell b t=>do loadVar t (←asAddr (a.tmps.getD b undef)):Sem Value)) >>=
  (fun vs=>pure (if h:vs.size=1 then vs[0] else .tuple vs)):=rfl
 by_cases hone:vs.length=1
 ·obtain ⟨v,rfl⟩:∃v,vs=[v]:=List.length_eq_one_iff.1 hone;obtain ⟨c,rfl⟩:∃c,cv=[c]:=List.length_eq_one_iff.1 (by simpa using k2);simp only [resV] at h2;subst h2;obtain ⟨c',hc',hv⟩:=k3 0 v rfl;simp at hc';subst hc';exact ⟨c,by rw [hres',Zy,hm];rfl,hv⟩
 ·have h3:resV vs = .tup vs:=by
   unfold resV;split
   ·simp at hone
   ·rfl
  rw [h3] at h2;subst h2;refine ⟨.tuple cv.toArray,?_,?_⟩
  ·rw [hres',Zy,hm,Zm];rw [dif_neg (by simpa [k2] using hone)];rfl
  ·refine .tup vs _ (fun j=>cv.getD j undef) (by simp [k2]) (fun j hj=>?_) (fun j x hx=>?_)
   ·simp at hj;simp [List.getD,hj]
   ·obtain ⟨c,hc,hv⟩:=k3 j x hx;have:cv.getD j undef=c:=by simp [List.getD,hc]
    rw [this];exact hv
theorem entry_rel {args:List V} {cs:Array Value} {n:Nat} (hd:Γ.dfr=[]) (hn:n=N) (hlen:args.length≤N) (hl:cs.size=args.length) (hargs:∀(j:Nat) x c,args[j]? = some x→cs[j]? = some c→RV bs Z w x c) :
 InvT N Γ (entryV args) bs Z { tmps:=cs++Array.replicate (n-cs.size) undef,defers:=[] } w:=by
 refine ⟨by simp;omega,.nil hd,fun i x hx=>?_⟩;simp only [entryV,ZX] at hx;obtain ⟨⟨y,j⟩,hy,he⟩:=hx;simp at he;obtain ⟨rfl,rfl⟩:=he
 have hj:args[j]? = some y:=by
  rw [List.mem_zipIdx_iff_getElem?] at hy;exact hy
 have hlt:j<args.length:=(Zb.1 hj).1;refine ⟨by omega,?_⟩;have hc:cs[j]? = some (cs[j]'(by omega)):=by simp [show j<cs.size by omega]
 have:=hargs j y _ hj hc;rw [Zu,Array.getElem?_append_left (by omega),hc];exact this
end
theorem InvW.collect {bs:Bs} {Z:Nat→Prop} {w:World} {Γ:Ctx} {H:List O} (hW:InvW Γ H bs Z w) {d:Nat} (hd:Γ.w0.heap.size≤d) (hz:Z d) (hh:w.heap[d]? = some (.deferred (some []))) :
 (∀a:Addr,(w.putObj d (.deferred none)).cell? a=w.cell? a)∧InvW Γ H bs Z (w.putObj d (.deferred none)):=by
 have hlt:d<w.heap.size:=hW.zlt d hz;have hoth:∀b,b≠d→(w.putObj d (.deferred none)).heap[b]? = w.heap[b]? := fun b hb=>World.putObj_heap_other hb
 have hcell:∀a:Addr,(w.putObj d (.deferred none)).cell? a=w.cell? a:=by
  intro a;by_cases ha:a.block=d
  ·unfold World.cell?;rw [ha,World.putObj_heap_same hlt,hh]
  ·exact cell_of_heap (hoth _ ha)
 have hbs:∀(i:Nat) (b k:Nat),bs[i]? = some (some (b,k))→b≠d:=fun i b k h e=>hW.disj i b k h (e▸hz);refine ⟨hcell,?_⟩;constructor
 ·exact hW.lenH
 ·intro i o q ho hq;exact (hW.objs i o q ho hq).monoC (fun _ _ h=>h) (fun _ h=>h) (fun a _=>hcell a) (fun b k e=>hoth b (hbs i b k (e▸hq)))
 ·exact hW.nodup
 ·exact hW.disj
 ·intro i b k h;rw [World.putObj_size];exact hW.lt i b k h
 ·intro b h;rw [World.putObj_size];exact hW.zlt b h
 ·exact hW.z0
 ·exact hW.fresh
 ·exact hW.zfresh
 ·rw [World.putObj_size];exact hW.size
 ·intro b hb hB;rw [hoth b (by omega)];exact hW.frame b hb hB
 ·exact hW.os
 ·exact hW.tape
 ·exact hW.output
 ·exact hW.pin
theorem collect_all {bs:Bs} {Z:Nat→Prop} {Γ:Ctx} {H:List O} {F:Fence} {n:Nat} {fn:Func} {tmps:Array Value} {R:Ending→World→Prop}:∀(l:List Nat) (w:World),InvW Γ H bs Z w→l.Nodup →
 (∀d∈l,Γ.w0.heap.size≤d∧Z d∧w.heap[d]? = some (.deferred (some []))) →
 (∀w',InvW Γ H bs Z w'→(∀a:Addr,w'.cell? a=w.cell? a)→∃v,(results fn tmps).run P w' = .ok v w'∧R (.returned v) w')→LeavesInM F n P fn tmps R (l.map markOf) .returning w:=by
 intro l;induction l with
 | nil=>intro w hW _ _ h;exact h w hW (fun _=>rfl)
 | cons d l ih =>
  intro w hW hnd hl h;obtain ⟨h1,h2,h3⟩:=hl d (Yb ..);obtain ⟨hc,hW'⟩:=hW.collect h1 h2 h3;have hnd':=List.nodup_cons.1 hnd;refine ⟨by simp,.inl ⟨d,_,rfl,run_takeDeferred h3,ih _ hW' hnd'.2 (fun e he=>?_) (fun w' hw' hc'=>h w' hw' (fun a=>(hc' a).trans (hc a)))⟩⟩;obtain ⟨g1,g2,g3⟩:=hl e (Zz _ he);refine ⟨g1,g2,(World.putObj_heap_other ?_).trans g3⟩;rintro rfl;exact hnd'.1 he
theorem calls_of_awp (hT:Tab.ok P tt) {f:FuncId} {fn:Func} {c:Code} {cs:Array Value} {Γ:Ctx} {w:World} {r:V} {R:Ending→World→Prop} (hd:Γ.dfr=[]) (hf:P.funcs[f]? = some fn) (hb:fn.body=some c)
 (h:c.wpIn Fence.wide 0 P (fun e a' w'=>∃T' H',((e = .ret∨e = .normal)∧(resL tt T' H' fn.results.toList).map resV=some r∧(∀bs Z w' c,InvW Γ H' bs Z w'→RV bs Z w' r c→R (.returned c) w'))∧Inv N Γ T' H' a' w')
  { tmps:=cs++Array.replicate (fn.ntmps-cs.size) undef,defers:=[] } w):Calls P f cs w R:=by
 refine callsIn_wide.1 (callsIn_of_wp_marks hf hb (F:=Fence.wide) (n:=0) trivial ?_);refine wpIn_mono h ?_;rintro e a' w' ⟨T',H',⟨he,hres,hR⟩,bs,Z,hW,hI⟩;obtain ⟨l,hl,hnd,hm⟩:=hI.defers
 have key:LeavesInM Fence.wide 0 P fn a'.tmps R a'.defers .returning w':=by
  rw [hl,hd,Yh];refine collect_all l w' hW hnd hm ?_;intro w2 hW2 hc2;have hI2:InvT N Γ T' bs Z { a' with defers:=[] } w2:=⟨hI.size,.nil hd,fun i x hx=>⟨(hI.rel i x hx).1,(hI.rel i x hx).2.monoC (fun _ _ h=>h) (fun _ h=>h) (fun a _=>hc2 a)⟩⟩
  obtain ⟨c,hc1,hc3⟩:=results_run (P:=P) hT hW2 hI2 hres;exact ⟨c,hc1,hR bs Z w2 c hW2 hc3⟩
 rcases he with rfl|rfl
 ·exact key
 ·exact key
theorem HCall.of_awp (hT:Tab.ok P tt) {f:FuncId} {fn:Func} {c:Code} {args:List V} {r:V} {H':List O} (hf:P.funcs[f]? = some fn) (hb:fn.body=some c) (hn:(fn.name == "runtime.NumGoroutine")=false) (hN:fn.ntmps=N)
 (hlen:args.length≤N) (h:awp P false N H.length c (retH tt fn.results.toList r H') (entryV args) H):HCall P f args H r H':=by
 refine ⟨⟨fn,hf,hn,by simp [hb]⟩,?_⟩;intro Γ bs Z w cs hW hn0 hl hargs;have hI:=entry_rel (Γ:={ Γ with dfr:=[] }) (n:=fn.ntmps) (N:=N) (bs:=bs) (Z:=Z) (w:=w) rfl hN hlen hl hargs;refine calls_of_awp (N:=N) (Γ:={ Γ with dfr:=[] }) (r:=r) hT rfl hf hb (wpIn_mono (h none rfl { Γ with dfr:=[] } _ w hn0 ⟨bs,Z,hW.dfr [],hI⟩) ?_);rintro e a' w' ⟨T',H2,⟨he,hres,rfl⟩,hi⟩;exact ⟨T',H2,⟨he,hres,fun bs Z w' c hW hr=>⟨c,bs,Z,rfl,hW.undfr,hr⟩⟩,hi⟩
theorem PCall.of_awp (hT:Tab.ok P tt) {f:FuncId} {fn:Func} {c:Code} {args:List D} {r:V} (hf:P.funcs[f]? = some fn) (hb:fn.body=some c) (hn:(fn.name == "runtime.NumGoroutine")=false) (hN:fn.ntmps=N)
 (hlen:args.length≤N) (hr:isData r=true) (h:awp P false N 0 c (retQ tt fn.results.toList r) (entryT args) []):PCall P f args r:=by
 refine ⟨⟨fn,hf,hn,by simp [hb]⟩,?_⟩;intro Z w cs hz hy hl hargs
 let Γ:Ctx:={ w0:=w,Z0:=Z,B0:=fun _=>False,lay:=hy,layB:=fun _ _ h=>h }
 have hW:InvW Γ [] [] Z w:=by
  constructor
  ·rfl
  ·intro i o b h;simp at h
  ·intro i j b k k' h;simp at h
  ·intro i b k h;simp at h
  ·intro i b k h;simp at h
  ·exact hz
  ·exact fun b h=>h
  ·intro i b k h;simp at h
  ·exact fun b h => .inl h
  ·exact Zx _
  ·exact fun b _ _=>rfl
  ·rfl
  ·rfl
  ·rfl
  ·intro i p h;simp [Γ] at h
 have hI:=entry_rel (Γ:=Γ) (args:=args.map .d) (n:=fn.ntmps) (N:=N) (bs:=[]) (Z:=Z) (w:=w) (cs:=cs) rfl hN (by simpa using hlen) (by simpa using hl) (fun j x c hx hc=>by
  rw [Zj,Zc] at hx;obtain ⟨y,hy,rfl⟩:=hx
  exact .d _ _ (hargs j y c hy hc))
 rw [←entryT_eq] at hI;refine calls_of_awp (N:=N) (Γ:=Γ) (r:=r) hT rfl hf hb (wpIn_mono (h none rfl Γ _ w (Zx _) ⟨[],Z,hW,hI⟩) ?_);rintro e a' w' ⟨T',H',⟨he,hres⟩,hi⟩;refine ⟨T',H',⟨he,hres,fun bs Z' w' c hW' hc2=>?_⟩,hi⟩
 have hgrow:Grow Z w Z' w':=⟨hW'.os,hW'.tape,hW'.output,hW'.size,fun b hb=>hW'.frame b hb (fun h=>h),hW'.z0,fun b hb=>by
  rcases hW'.zfresh b hb with h|h|h
  ·exact .inl h
  ·exact .inr ⟨h,hW'.zlt b hb⟩
  ·exact h.elim⟩
 have hdata:∀{x:V} {c:Value},(match x with | .d _=>true|_=>false)=true→RV bs Z' w' x c→RV [] Z' w' x c:=by
  intro x c hx hr;cases hr with
  | d y c h=>exact .d y c h
  | _=>simp at hx
 have hdr:∀{x:V} {c:Value},isData x=true→RV bs Z' w' x c→RV [] Z' w' x c:=by
  intro x c hx hr;cases hr with
  | d y c h=>exact .d y c h
  | tup us cs2 g hl hf' hr' =>
   simp only [isData,ZB] at hx;exact .tup us cs2 g hl hf' (fun j x hj=>hdata (hx x (ZG hj)) (hr' j x hj))
  | _=>simp [isData] at hx
 exact ⟨c,Z',rfl,hgrow,hdr hr hc2⟩
end funs
end Go.Sx
end
section
namespace Go.Sx
open Go
set_option linter.unusedSimpArgs false
set_option linter.unusedVariables false
def memB (x:Nat):List Nat→Bool
 | []=>false
 | y::ys=>Nat.beq x y||memB x ys
def hasB (m i:Nat):Bool:=Nat.beq (Nat.land 1 (Nat.shiftRight m i)) 1
theorem hasB_eq (m i:Nat):hasB m i=m.testBit i:=by
 have h:hasB m i=Nat.beq (1 &&& (m >>> i)) 1:=rfl;rw [h,Nat.testBit,Nat.and_comm 1,Nat.and_one_is_mod];rcases Nat.mod_two_eq_zero_or_one (m >>> i) with h|h<;>rw [h]<;>rfl
def ancE (acc:List Nat):List Edge→Nat
 | []=>0
 | e::es=>Nat.lor (if Region.binds .any e then Nat.lor (Nat.shiftLeft 1 e.on) (acc.getD e.on 0) else 0) (ancE acc es)
def ancOf (acc:List Nat) (o:Oper):Nat:=ancE acc o.after.toList
def ancs:List Oper→List Nat→List Nat
 | [],acc=>acc
 | o::os,acc=>ancs os (acc++[ancOf acc o])
theorem mem_ancE {acc:List Nat} {j:Nat}:∀{es:List Edge},hasB (ancE acc es) j=true→∃e∈es,Region.binds .any e=true∧(e.on=j∨hasB (acc.getD e.on 0) j=true):=by
 intro es;induction es with
 | nil=>intro h;simp [ancE,hasB_eq] at h
 | cons e es ih =>
  intro h;rw [hasB_eq,ancE,show ∀a b,Nat.lor a b=a ||| b from fun _ _=>rfl,Nat.testBit_or,ZY] at h;rcases h with h|h
  ·by_cases hb:Region.binds .any e=true
   ·rw [if_pos hb,show ∀a b,Nat.lor a b=a ||| b from fun _ _=>rfl,Nat.testBit_or,ZY] at h;refine ⟨e,by simp,hb,?_⟩;rcases h with h|h
    ·rw [show Nat.shiftLeft 1 e.on=2^e.on from by rw [show Nat.shiftLeft 1 e.on=1 <<< e.on from rfl,Nat.shiftLeft_eq,Nat.one_mul],Nat.testBit_two_pow] at h;exact .inl (by simpa using h)
    ·exact .inr (by rw [hasB_eq];exact h)
   ·rw [if_neg hb] at h;simp at h
  ·obtain ⟨q,hq,h1⟩:=ih (by rw [hasB_eq];exact h);exact ⟨q,Zz _ hq,h1⟩
def looks (dsts:List (Option Tmp)) (o:Oper):List Tmp :=
 (o.op.operands.toList.filterMap fun | .tmp t=>some t|_=>none)++(match o.guard with|some (j,_)=>((dsts[j]?).bind id).toList|none=>[])
def backB (o:Oper) (i:Nat):Bool:=o.after.toList.all fun e => !Region.binds .any e||Nat.blt e.on i
def allBackB:List Oper→Nat→Bool
 | [],_=>true
 | o::os,i=>backB o i&&allBackB os (i+1)
def tailB (as:List Nat):(i:Nat)→(n:Nat)→Bool
 | _,0=>true
 | i,n+1=>(List.range i).all (fun j=>hasB (as.getD i 0) j)&&tailB as (i+1) n
section logic
theorem memB_iff {x:Nat} {l:List Nat}:memB x l=true↔x∈l:=by
 induction l with
 | nil=>simp [memB]
 | cons y ys ih=>simp [memB,ih]
variable {ops:List Oper}
theorem ancs_prefix:∀(os:List Oper) (acc:List Nat) (i:Nat),i<acc.length→(ancs os acc)[i]? = acc[i]? := by
 intro os;induction os with
 | nil=>intro acc i h;rfl
 | cons o os ih =>
  intro acc i h;rw [ancs,ih _ _ (by simp;omega),ZT h]
theorem anc_closed {L:Nat→Prop} (hd:∀(i:Nat) (o:Oper),ops[i]? = some o→∀e∈o.after.toList,Region.binds .any e=true→e.on<i) :
 ∀(k:Nat) (acc:List Nat),acc.length=k→ancs (ops.drop k) acc=ancs ops []→∀(i:Nat) (o:Oper),ops[i]? = some o→(∀e∈o.after.toList,Region.binds .any e=true→L e.on) →
  (∀(j:Nat) (o:Oper),ops[j]? = some o→L j→∀e∈o.after.toList,Region.binds .any e=true→L e.on)→k=0→∀j,hasB ((ancs ops []).getD i 0) j=true→L j:=by
 have key:∀(n i:Nat),i≤n→∀(o:Oper),ops[i]? = some o→(∀e∈o.after.toList,Region.binds .any e=true→L e.on) →
  (∀(j:Nat) (o:Oper),ops[j]? = some o→L j→∀e∈o.after.toList,Region.binds .any e=true→L e.on)→∀j,hasB ((ancs ops []).getD i 0) j=true→L j:=by

  have hent:∀(i:Nat) (o:Oper),ops[i]? = some o→(ancs ops []).getD i 0=ancOf ((ancs ops []).take i) o:=by
   have hgen:∀(os:List Oper) (acc:List Nat) (i:Nat) (o:Oper),os[i]? = some o→(ancs os acc)[acc.length+i]? = some (ancOf ((ancs os acc).take (acc.length+i)) o):=by
    intro os;induction os with
    | nil=>intro acc i o h;simp at h
    | cons o os ih =>
     intro acc i o' h;cases i with
     | zero =>
      simp at h;subst h;rw [ancs,Yp,ancs_prefix _ _ _ (by simp)];simp;congr 1;apply ZZ;intro j;rw [Zr];split
      ·rename_i hj;rw [ancs_prefix _ _ _ (by simp;omega),ZT hj]
      ·rename_i hj;rw [ZC (by omega)]
     | succ i =>
      simp at h;have:=ih (acc++[ancOf acc o]) i o' h;rw [ancs];simp only [ZE,List.length_singleton] at this;rw [show acc.length+(i+1)=acc.length+1+i by omega];exact this
   intro i o h;have:=hgen ops [] i o h;simp at this;rw [Zv,this];rfl
  intro n;induction n with
  | zero =>
   intro i hi o ho hL hcl j hj;have:i=0:=by omega
   subst this;rw [hent 0 o ho] at hj;obtain ⟨e,he,hb,hj⟩:=mem_ancE hj;have:=hd 0 o ho e he hb;omega
  | succ n ih =>
   intro i hi o ho hL hcl j hj;rw [hent i o ho] at hj;obtain ⟨e,he,hb,hj⟩:=mem_ancE hj;have hlt:=hd i o ho e he hb;have hLe:=hL e he hb;rcases hj with rfl|hj
   ·exact hLe
   ·have hsub:((ancs ops []).take i).getD e.on 0=(ancs ops []).getD e.on 0:=by
     rw [Zv,Zr,if_pos hlt,←Zv]
    rw [hsub] at hj;have holt:e.on<ops.length:=by have:=(Zb.1 ho).1;omega
    exact ih e.on (by omega) ops[e.on] (Zd holt) (hcl e.on _ (Zd holt) hLe) hcl j hj
 intro k acc hk hacc i o ho hL hcl _ j hj;exact key i i (Zx _) o ho hL hcl j hj
theorem allBackB_at:∀(os:List Oper) (k:Nat),allBackB os k=true→∀(i:Nat) (o:Oper),os[i]? = some o→∀e∈o.after.toList,Region.binds .any e=true→e.on<k+i:=by
 intro os;induction os with
 | nil=>intro k _ i o h;simp at h
 | cons o os ih =>
  intro k hb i o' h e he hbi;simp [allBackB] at hb;cases i with
  | zero =>
   simp at h;subst h;have:=hb.1;simp only [backB,ZB] at this;have:=this e he;simp [hbi] at this;omega
  | succ i =>
   simp at h;have:=ih (k+1) hb.2 i o' h e he hbi;omega
theorem tailB_at {as:List Nat}:∀(n i:Nat),tailB as i n=true→∀q,i≤q→q<i+n→∀j<q,hasB (as.getD q 0) j=true:=by
 intro n;induction n with
 | zero=>intro i _ q h1 h2;omega
 | succ n ih =>
  intro i hb q h1 h2 j hj;simp only [tailB,Zh,ZB,List.mem_range] at hb;by_cases hq:q=i
  ·subst hq;exact hb.1 j hj
  ·exact ih (i+1) hb.2 q (by omega) (by omega) j hj
end logic
end Go.Sx
end
section
namespace Go.Sx
open Go
set_option linter.unusedSimpArgs false
set_option linter.unusedVariables false
def getF (lk:Nat→Option V):Operand→V
 | .tmp t=>(lk t).getD .top
 | .const v=>constV v
 | .func f => .fn (.func f) [] []
 | .global _ => .top
def guardF (dsts:List (Option Tmp)) (lk:Nat→Option V):Option (Nat×Bool)→Option (Option Bool)
 | none=>some none
 | some (j,want) =>
  match dsts[j]? with
  | some (some d) =>
   match lk d with
   | some (.d (.v (.bool b)))=>some (some (cond want b (!b)))
   | some (.when g (.d (.v (.bool b))))=>some (some (g&&cond want b (!b)))
   | _=>none
  | _=>none
def evVal (P:Program) (tt:Tab) (dsts:List (Option Tmp)) (o:Oper) (h:Hint) (lk:Nat→Option V) (H:List O):Option (V×List Prop) :=
 match guardF dsts lk o.guard with
 | none=>none
 | some none=>evPure P tt o h (getF lk) H
 | some (some g)=>evGuard P tt o h g (getF lk) H
theorem getF_lookup (T:St):getF (fun x=>T.lookup x)=getV T:=by funext x;cases x<;>rfl
section
variable {P:Program} {tt:Tab} {N:Nat} {dsts:List (Option Tmp)} {o:Oper} {h:Hint} {T T':St} {H H':List O} {ps:List Prop}
theorem evVal_congr {lk lk':Nat→Option V} (hl:∀x∈looks dsts o,lk x=lk' x):evVal P tt dsts o h lk H=evVal P tt dsts o h lk' H:=by
 have hop:∀x∈o.op.operands,getF lk x=getF lk' x:=by
  intro x hx;cases x with
  | tmp t =>
   simp only [getF];rw [hl t];simp only [looks,Z4,Yn];exact .inl ⟨.tmp t,by simpa using hx,rfl⟩
  | _=>rfl
 have hg:guardF dsts lk o.guard=guardF dsts lk' o.guard:=by
  unfold guardF;cases hog:o.guard with
  | none=>rfl
  | some p =>
   obtain ⟨j,want⟩:=p;simp only [];cases hd:dsts[j]? with
   | none=>rfl
   | some d =>
    cases d with
    | none=>rfl
    | some d =>
     simp only [];rw [hl d];simp only [looks,Z4,hog,hd];right;simp
 have e2:=evPure_congr (P:=P) (tt:=tt) (h:=h) (H:=H) (o:=o) (get:=fun x=>(getF lk x).bare) (get':=fun x=>(getF lk' x).bare) (fun x hx=>by simp only [hop x hx])
 have e3:condsOf (getF lk) o=condsOf (getF lk') o:=by
  unfold condsOf;rw [List.flatMap_def,List.flatMap_def,Z6];intro x hx;rw [hop x (by simpa using hx)]
 have e0:∀g,evGuard P tt o h g (getF lk) H=evGuard P tt o h g (getF lk') H:=by
  intro g;unfold evGuard;split
  ·rename_i c x y ho;rw [hop c (by simp [ho,Op.operands]),hop x (by simp [ho,Op.operands]),hop y (by simp [ho,Op.operands])]
  ·rw [e2,e3]
 unfold evVal;rw [hg];simp only [e0];have e1:=evPure_congr (P:=P) (tt:=tt) (h:=h) (H:=H) (o:=o) hop;rw [e1]
end
def upd (lk:Nat→Option V) (d:Option Tmp) (v:V):Nat→Option V:=fun x=>if d=some x then some v else lk x
structure InvF (N:Nat) (Γ:Ctx) (lk:Nat→Option V) (bs:Bs) (Z:Nat→Prop) (a:Act) (w:World):Prop where
 size:a.tmps.size=N
 defers:DefOk Γ Z w a.defers
 rel:∀i x,lk i=some x→i<N∧RV bs Z w x (a.tmps.getD i undef)
theorem InvF.get {N:Nat} {Γ:Ctx} {lk:Nat→Option V} {bs:Bs} {Z:Nat→Prop} {a:Act} {w:World} (hI:InvF N Γ lk bs Z a w) (x:Operand):RV bs Z w (getF lk x) (a.eval x):=by
 cases x with
 | tmp t =>
  simp only [getF,Act.eval];cases hl:lk t with
  | none=>exact .top _
  | some v=>exact (hI.rel t v hl).2
 | const v =>
  simp only [getF,Act.eval,constV];split
  ·rename_i h;exact .d _ _ (.v _ h)
  ·exact .top _
 | global g=>exact .top _
 | func f=>exact .fn _ _ _ _ _ (fun _=>undef) (fun _=>undef) rfl rfl (fun j hj=>by simp at hj) (fun j hj=>by simp at hj) (fun j x h=>by simp at h) (fun j x h=>by simp at h)
theorem InvT.toF {N:Nat} {Γ:Ctx} {T:St} {bs:Bs} {Z:Nat→Prop} {a:Act} {w:World} (h:InvT N Γ T bs Z a w):InvF N Γ (fun x=>T.lookup x) bs Z a w :=
 ⟨h.size,h.defers,fun i x hx=>h.rel i x (mem_of_lookup hx)⟩
theorem InvF.mono {N:Nat} {Γ:Ctx} {lk:Nat→Option V} {bs bs':Bs} {Z Z':Nat→Prop} {a:Act} {w w':World} (h:InvF N Γ lk bs Z a w) (hb:∀(i:Nat) (o:Option (Nat×Nat)),bs[i]? = some o→bs'[i]? = some o) (hZ:∀b,Z b→Z' b)
 (hw:∀b,Z b→w'.heap[b]? = w.heap[b]?):InvF N Γ lk bs' Z' a w':=⟨h.size,h.defers.mono hZ hw,fun i x hx=>⟨(h.rel i x hx).1,(h.rel i x hx).2.mono hb hZ hw⟩⟩
theorem InvF.put {N:Nat} {Γ:Ctx} {lk:Nat→Option V} {bs:Bs} {Z:Nat→Prop} {a:Act} {w:World} {dst:Option Tmp} {v:V} {c:Value} (hI:InvF N Γ lk bs Z a w) (hd:dstOk N dst=true) (hv:RV bs Z w v c) :
 InvF N Γ (upd lk dst v) bs Z (a.put dst c) w:=by
 cases dst with
 | none=>refine ⟨hI.size,hI.defers,fun i x hx=>hI.rel i x (by simpa [upd] using hx)⟩
 | some d =>
  simp [dstOk] at hd;refine ⟨by simp [Act.put,hI.size],hI.defers,fun i x hx=>?_⟩;simp only [upd,Zf] at hx;split at hx
  ·rename_i e;subst e;simp at hx;subst hx;refine ⟨hd,?_⟩;simp only [Act.put];rw [Zu,Array.getElem?_setIfInBounds_self_of_lt (by rw [hI.size];exact hd)];exact hv
  ·rename_i hne;have:=hI.rel i x hx;refine ⟨this.1,?_⟩;simp only [Act.put];rw [Zu,Array.getElem?_setIfInBounds_ne hne,←Zu];exact this.2
section exec
variable {P:Program} {tt:Tab} {N:Nat} {H:List O}
theorem evVal_sound (hT:Tab.ok P tt) {ops:Array Oper} {o:Oper} {h:Hint} {Γ:Ctx} {a:Act} {w:World} {bs:Bs} {Z:Nat→Prop} {lk:Nat→Option V} {v:V} {ps:List Prop} {ro:Option Nat} {next:Act→World→Prop} {Q:Exit→Act→World→Prop}
 (he:evVal P tt (ops.toList.map (·.dst)) o h lk H=some (v,ps)) (hp:∀p∈ps,p) (hW:InvW Γ H bs Z w) (hI:InvF N Γ lk bs Z a w)
 (hn:∀c w' Z',Grow Z w Z' w'→RV bs Z' w' v c→next (a.put o.dst c) w') :
 if Region.wanted o (yielded ops a.tmps) then o.wpIn (wideAt ro) 0 P a w next Q else next (a.put o.dst undef) w:=by
 unfold evVal at he;split at he
 ·simp at he
 ·rename_i hg
  have hgn:o.guard=none:=by
   unfold guardF at hg;split at hg
   ·rename_i e;exact e
   ·split at hg
    ·split at hg<;>simp at hg
    ·simp at hg
  have hwant:Region.wanted o (yielded ops a.tmps)=true:=by simp [Region.wanted,hgn]
  rw [if_pos hwant];exact wp_to_in (evPure_nd he) ro (evPure_sound hT hW hI.get he hp next Q hn)
 ·rename_i g hg;obtain ⟨v',rfl,hnd,hyy⟩:=evGuard_sound hT he hp
  have hyield:∃j want,o.guard=some (j,want)∧(g=true→yielded ops a.tmps j=some want)∧(g=false→yielded ops a.tmps j≠some want):=by
   unfold guardF at hg;split at hg
   ·simp at hg
   ·rename_i j want hog;refine ⟨j,want,hog,?_⟩;split at hg
    ·rename_i d hdj
     have hdj':(ops[j]?).bind (·.dst)=some d:=by
      simp only [Zj,Zc,Array.getElem?_toList] at hdj;obtain ⟨oj,h2,h3⟩:=hdj;simp [h2,h3]
     have hval:∀{u:V},lk d=some u→d<N∧RV bs Z w u (a.tmps.getD d undef):=fun hl=>hI.rel d _ hl
     have hy:∀c,d<N→a.tmps.getD d undef=c→yielded ops a.tmps j=(match c with | .bool b=>some b|_=>none):=by
      intro c hlt hc
      have:a.tmps[d]? = some c:=by
       rw [←hc,Zu];have:d<a.tmps.size:=by rw [hI.size];exact hlt
       simp [this]
      simp only [yielded,hdj',Za,this];cases c<;>rfl
     split at hg
     ·rename_i b hl;simp at hg;subst hg;obtain ⟨hlt,hr⟩:=hval hl;have:=hy _ hlt hr.bool;simp only at this;rw [this];cases want<;>cases b<;>simp
     ·rename_i g1 b hl;simp at hg;subst hg;obtain ⟨hlt,hr⟩:=hval hl;generalize hc:a.tmps.getD d undef=c at hr;cases hr with|when _ _ _ h2 h3 =>
      cases g1 with
      | true =>
       have:=hy _ hlt (hc.trans (h2 rfl).bool);simp only at this;rw [this];cases want<;>cases b<;>simp
      | false =>
       have:=hy _ hlt (hc.trans (h3 rfl));simp only [undef] at this;rw [this];simp
     ·simp at hg
    ·simp at hg
  obtain ⟨j,want,hog,hy1,hy2⟩:=hyield
  have hwant:Region.wanted o (yielded ops a.tmps)=g:=by
   simp only [Region.wanted,hog];cases g with
   | true=>simp [hy1 rfl]
   | false=>have:=hy2 rfl;simp [this]
  rw [hwant];cases g with
  | false =>
   simp only [Zk,if_false];exact hn undef w Z (Grow.refl _ _) (.when _ _ _ (fun h=>by simp at h) (fun _=>rfl))
  | true =>
   simp only [if_true];refine wp_to_in hnd ro (hyy rfl hW hI.get next Q ?_);intro c w' Z' hg' hv;exact hn c w' Z' hg' (.when _ _ _ (fun _=>hv) (fun h=>by simp at h))
end exec
end Go.Sx
end
section
namespace Go.Sx
open Go
set_option linter.unusedSimpArgs false
set_option linter.unusedVariables false
section
variable {P:Program} {tt:Tab} {rd:Bool} {N fl:Nat}
theorem ready_iff {ops:Array Oper} {listed:Array Bool} {i:Nat} (hs:listed.size=ops.size):i∈Region.ready .any ops listed ↔
 ∃o,ops[i]? = some o∧listed.getD i false=false∧∀e∈o.after.toList,Region.binds .any e=true→listed.getD e.on false=true:=by
 simp only [Region.ready,Ym,List.mem_range,Zh,Bool.not_eq_true'];constructor
 ·rintro ⟨h1,h2,h3⟩;have ho:ops[i]? = some ops[i]:=by simp [h1]
  refine ⟨ops[i],ho,?_,?_⟩
  ·have:i<listed.size:=by omega
   simpa [Array.getD,this] using h2
  ·rw [ho] at h3;simp only [Zo,ZL,←Array.all_toList,ZB] at h3;intro e he hb;have:=h3 e he;simpa [hb] using this
 ·rintro ⟨o,ho,h2,h3⟩;have hlt:i<ops.size:=(ZP.1 ho).1;refine ⟨hlt,?_,?_⟩
  ·have:i<listed.size:=by omega
   simpa [Array.getD,this] using h2
  ·rw [ho];simp only [Zo,ZL,←Array.all_toList,ZB];intro e he;by_cases hb:Region.binds .any e=true
   ·simp [hb,h3 e he hb]
   ·simp [hb]
theorem getD_set {l:Array Bool} {i j:Nat} (hi:i<l.size):(l.setIfInBounds i true).getD j false=if j=i then true else l.getD j false:=by
 simp only [Zu];by_cases h:j=i
 ·subst h;simp [hi]
 ·rw [if_neg h,Array.getElem?_setIfInBounds_ne (fun e=>h e.symm)]
theorem count_set (p:Nat→Bool) (i:Nat):∀m,(List.range m).countP (fun j=>p j&&j != i)+(if i<m∧p i=true then 1 else 0)=(List.range m).countP p:=by
 intro m;induction m with
 | zero=>simp
 | succ m ih =>
  rw [List.range_succ,List.countP_append,List.countP_append,←ih];by_cases him:i=m
  ·subst him;have h1:¬(i<i∧p i=true):=by omega
   rw [if_neg h1];by_cases hp:p i=true
   ·rw [if_pos ⟨by omega,hp⟩];simp [hp]
   ·rw [if_neg (by simp [hp])];simp [hp]
  ·by_cases hlt:i<m∧p i=true
   ·rw [if_pos hlt,if_pos ⟨by omega,hlt.2⟩];have:(m != i)=true:=by simp;omega
    simp only [List.countP_singleton,this,ZD];omega
   ·rw [if_neg hlt,if_neg (fun h=>hlt ⟨by omega,h.2⟩)];have:(m != i)=true:=by simp;omega
    simp only [List.countP_singleton,this,ZD];omega
end
end Go.Sx
end
section
namespace Go.Sx
open Go
set_option linter.unusedSimpArgs false
set_option linter.unusedVariables false
def O.ids:O→List Nat
 | .cells xs=>V.idsL xs
 | .vec xs _ zs=>V.idsL xs++V.idsL zs
 | .bld (some (some (_,j)))=>[j]
 | .loop _ _ _ _ _ T=>V.idsL (T.map (·.2))
 | _=>[]
theorem idsL_mem {v:V} {vs:List V} (h:v∈vs):∀i∈v.ids,i∈V.idsL vs:=by
 induction vs with
 | nil=>simp at h
 | cons u vs ih =>
  intro i hi;simp only [V.idsL,Z4];rcases ZM.1 h with rfl|h
  ·exact .inl hi
  ·exact .inr (ih h i hi)
theorem onlyO_ids (p:Nat→Bool) (o:O) (h:∀i∈o.ids,p i=true):o.only p=o:=by
 cases o with
 | cells xs=>simp only [O.only];rw [onlyL_ids p xs h]
 | vec xs ns zs=>simp only [O.only];rw [onlyL_ids p xs (fun i hi=>h i (Z7 _ hi)),onlyL_ids p zs (fun i hi=>h i (ZN _ hi))]
 | bld st =>
  match st,h with
  | none,_=>rfl
  | some none,_=>rfl
  | some (some (l,j)),h=>simp only [O.only];rw [if_pos (h j (by simp [O.ids]))]
 | loop st ps as bd N T =>
  simp only [O.only];congr 1
  conv=>rhs;rw [←List.map_id T]
  refine Z6 fun q hq=>?_;simp only [O.ids] at h;rw [only_ids p q.2 (fun i hi=>h i (idsL_mem (ZX.2 ⟨q,hq,rfl⟩) i hi))];rfl
 | _=>rfl
theorem RV.keep {bs bs':Bs} {Z:Nat→Prop} {w:World} {v:V} {c:Value} (h:RV bs Z w v c) (hb:∀i∈v.ids,∀(o:Option (Nat×Nat)),bs[i]? = some o→bs'[i]? = some o):RV bs' Z w v c:=by
 have:=h.only (bs':=bs') (fun i=>decide (i∈v.ids)) (fun i o hi h=>hb i (by simpa using hi) o h)
 rwa [only_ids _ _ (fun i hi=>by simpa using hi)] at this
section states
variable {A:Type}
def updW (σ:Nat→A) (W:List (Nat×A)):Nat→A:=fun x=>(W.lookup x).getD (σ x)
def stS (S:Nat→Bool):(Nat→A)→List (List (Nat×A))→Nat→Nat→A
 | σ,[],_=>σ
 | σ,W::ws,k=>stS S (if S k then updW σ W else σ) ws (k+1)
def inKeys (x:Nat) (W:List (Nat×A)):Prop:=∃a,(x,a)∈W
theorem lookup_none {x:Nat} {W:List (Nat×A)} (h:¬inKeys x W):W.lookup x=none:=by
 induction W with
 | nil=>rfl
 | cons p W ih =>
  obtain ⟨y,b⟩:=p;rw [ZV]
  have h1:(x==y)=false:=by
   rw [beq_eq_false_iff_ne];rintro rfl;exact h ⟨b,by simp⟩
  rw [h1];exact ih (fun ⟨a,ha⟩=>h ⟨a,Zz _ ha⟩)
theorem lookup_some {x:Nat} {W:List (Nat×A)} (h:inKeys x W):∃a,W.lookup x=some a:=by
 obtain ⟨a,ha⟩:=h;induction W with
 | nil=>simp at ha
 | cons p W ih =>
  obtain ⟨y,b⟩:=p;rw [ZV];by_cases hxy:x=y
  ·subst hxy;exact ⟨b,by simp⟩
  ·have h1:(x==y)=false:=by rw [beq_eq_false_iff_ne];exact hxy
   rw [h1];rcases ZM.1 ha with e|ha
   ·simp at e;exact absurd e.1 hxy
   ·exact ih ha
theorem updW_out {σ:Nat→A} {W:List (Nat×A)} {x:Nat} (h:¬inKeys x W):updW σ W x=σ x:=by simp [updW,lookup_none h]
theorem updW_in {σ σ':Nat→A} {W:List (Nat×A)} {x:Nat} (h:inKeys x W):updW σ W x=updW σ' W x:=by
 obtain ⟨a,ha⟩:=lookup_some h;simp [updW,ha]
theorem stS_agree {S S':Nat→Bool} {x:Nat}:∀(ws:List (List (Nat×A))) (σ σ':Nat→A) (k:Nat),σ x=σ' x→(∀(j:Nat) W,ws[j]? = some W→inKeys x W→S (k+j)=S' (k+j))→stS S σ ws k x=stS S' σ' ws k x:=by
 intro ws;induction ws with
 | nil=>intro σ σ' k h _;exact h
 | cons W ws ih =>
  intro σ σ' k h hS;simp only [stS]
  refine ih _ _ _ ?_ (fun j W' hj hx=>by
   have:=hS (j+1) W' (by simpa using hj) hx
   rw [show k+1+j=k+(j+1) by omega];exact this)
  by_cases hx:inKeys x W
  ·have h0:=hS 0 W rfl hx;simp only [Yp] at h0;rw [h0];split
   ·exact updW_in hx
   ·exact h
  ·split<;>split
   ·rw [updW_out hx,updW_out hx,h]
   ·rw [updW_out hx,h]
   ·rw [updW_out hx,h]
   ·exact h
theorem stS_last {S:Nat→Bool} {x:Nat}:∀(ws:List (List (Nat×A))) (σ τ:Nat→A) (k i:Nat) (W:List (Nat×A)),ws[i]? = some W→S (k+i)=true→inKeys x W→(∀(j:Nat) W',ws[j]? = some W'→i<j→S (k+j)=true→¬inKeys x W') →
 stS S σ ws k x=updW τ W x:=by
 intro ws;induction ws with
 | nil=>intro σ τ k i W h;simp at h
 | cons W0 ws ih =>
  intro σ τ k i W hi hS hx hl;simp only [stS];cases i with
  | zero =>
   simp at hi;subst hi;rw [Yp] at hS;rw [if_pos hS]

   have:∀(ws':List (List (Nat×A))) (k':Nat) (σ':Nat→A),(∀(j:Nat) W',ws'[j]? = some W'→S (k'+j)=true→¬inKeys x W')→stS S σ' ws' k' x=σ' x:=by
    intro ws';induction ws' with
    | nil=>intro k' σ' _;rfl
    | cons W1 ws' ih' =>
     intro k' σ' h';simp only [stS];rw [ih' (k'+1) _ (fun j W' hj hs=>h' (j+1) W' (by simpa using hj) (by rw [show k'+(j+1)=k'+1+j by omega];exact hs))];split
     ·rename_i hs;exact updW_out (h' 0 W1 rfl (by simpa using hs))
     ·rfl
   rw [this ws (k+1) _ (fun j W' hj hs=>hl (j+1) W' (by simpa using hj) (by omega) (by rw [show k+(j+1)=k+1+j by omega];exact hs))];exact updW_in hx
  | succ i =>
   exact ih _ τ (k+1) i W (by simpa using hi) (by rw [show k+1+i=k+(i+1) by omega];exact hS) hx (fun j W' hj hlt hs=>hl (j+1) W' (by simpa using hj) (by omega) (by rw [show k+(j+1)=k+1+j by omega];exact hs))
theorem stS_add {S S':Nat→Bool} {σ:Nat→A} {ws:List (List (Nat×A))} {i:Nat} {W:List (Nat×A)} (hi:ws[i]? = some W) (h1:S' i=true) (h2:∀j,j≠i→S' j=S j)
 (hl:∀(j:Nat) W' x,ws[j]? = some W'→i<j→S j=true→inKeys x W→¬inKeys x W'):stS S' σ ws 0=updW (stS S σ ws 0) W:=by
 funext x;by_cases hx:inKeys x W
 ·refine stS_last ws σ _ 0 i W hi (by rw [Zw];exact h1) hx (fun j W' hj hlt hs=>?_);rw [Zw,h2 j (by omega)] at hs;exact hl j W' x hj hlt hs hx
 ·rw [updW_out hx];refine stS_agree ws σ σ 0 rfl (fun j W' hj hx'=>?_);rw [Zw];by_cases hji:j=i
  ·subst hji;rw [hi] at hj;simp at hj;subst hj;exact absurd hx' hx
  ·exact h2 j hji
theorem stS_none:∀(ws:List (List (Nat×A))) (S:Nat→Bool) (σ:Nat→A) (k:Nat),(∀j,k≤j→S j=false)→stS S σ ws k=σ:=by
 intro ws;induction ws with
 | nil=>intro S σ k _;rfl
 | cons W ws ih=>intro S σ k h;simp only [stS];rw [h k (Zx _)];exact ih S _ _ (fun j hj=>h j (by omega))
theorem stS_take:∀(ws:List (List (Nat×A))) (i:Nat) (σ:Nat→A) (k:Nat),stS (fun _=>true) σ (ws.take i) k=stS (fun j=>decide (j<k+i)) σ ws k:=by
 intro ws;induction ws with
 | nil=>intro i σ k;simp [stS]
 | cons W ws ih =>
  intro i σ k;cases i with
  | zero=>rw [List.take_zero];rw [stS_none (W::ws) _ σ k (fun j hj=>by simp;omega)];rfl
  | succ i =>
   rw [List.take_succ_cons];simp only [stS,if_true];rw [ih,if_pos (by simp)];congr 1;funext j;congr 1;rw [show k+1+i=k+(i+1) by omega]
theorem stS_app:∀(pre ws:List (List (Nat×A))) (σ:Nat→A) (k:Nat),stS (fun _=>true) σ (pre++ws) k=stS (fun _=>true) (stS (fun _=>true) σ pre k) ws (k+pre.length):=by
 intro pre;induction pre with
 | nil=>intro ws σ k;rfl
 | cons p pre ih =>
  intro ws σ k;simp only [List.cons_append,stS,if_true,ZF];rw [ih];congr 1;omega
end states
def listOf (n:Nat) (f:Nat→O):List O:=(List.range n).map f
def setH (H:List O) (ow:List (Nat×O)):List O:=H.zipIdx.map fun q=>(ow.lookup q.2).getD q.1
theorem listOf_get {n i:Nat} {f:Nat→O}:(listOf n f)[i]? = if i<n then some (f i) else none:=by
 simp only [listOf,Zj];split
 ·rename_i h;rw [List.getElem?_range h];rfl
 ·rename_i h;rw [ZC (by simpa using h)];rfl
theorem listOf_self (H:List O):listOf H.length (fun i=>H.getD i default)=H:=by
 apply ZZ;intro i;rw [listOf_get];split
 ·rename_i h;simp [h]
 ·rename_i h;rw [ZC (by omega)]
theorem setH_get {H:List O} {ow:List (Nat×O)} {i:Nat}:(setH H ow)[i]? = (H[i]?).map fun o=>(ow.lookup i).getD o:=by
 simp only [setH,Zj,List.getElem?_zipIdx,Option.map_map];cases H[i]? <;> simp
theorem setH_listOf {n:Nat} {f:Nat→O} {ow:List (Nat×O)}:setH (listOf n f) ow=listOf n (updW f ow):=by
 apply ZZ;intro i;rw [setH_get,listOf_get,listOf_get];split<;>rfl
theorem setH_one {H:List O} {id:Nat} {n:O}:setH H [(id,n)]=H.set id n:=by
 apply ZZ;intro i;rw [setH_get,Zn];by_cases h:id=i
 ·subst h;simp only [ZV,beq_self_eq_true,ZL,if_true];split
  ·rename_i h;simp [h]
  ·rename_i h;rw [ZC (by omega)];rfl
 ·have:(i==id)=false:=by rw [beq_eq_false_iff_ne];exact fun e=>h e.symm
  simp only [ZV,this,List.lookup_nil,Yv,if_neg h];cases H[i]? <;> rfl
theorem setH_nil {H:List O}:setH H []=H:=by
 apply ZZ;intro i;rw [setH_get];cases H[i]? <;> rfl
theorem setH_length {H:List O} {ow:List (Nat×O)}:(setH H ow).length=H.length:=by simp [setH]
def dstW (d:Option Tmp) (v:V):List (Nat×Option V) :=
 match d with
 | some d=>[(d,some v)]
 | none=>[]
def hintIds:Hint→List Nat
 | .res r=>[r]
 | .hcall ids _ _=>ids.map (·.1)
 | .rcall ids _=>ids.map (·.1)
 | .app _ _ ko _ _=>ko
 | _=>[]
def pureOp:Op→Bool
 | .makeFunc _ _ _=>true
 | .move _=>true
 | .assign _=>true
 | .extract _ _=>true
 | _=>false
def footOf (o:Oper) (h:Hint) (lk:Nat→Option V):List Nat:=(if pureOp o.op then [] else o.op.operands.toList.flatMap (fun x=>(getF lk x).ids))++hintIds h
def isRow0:Option O→Bool
 | some (.data [])=>true
 | _=>false
def hcVal (P:Program) (ids:List (Nat×Bool)) (r:V) (H':List O) (n:Nat) (Hs:List O) (fv:V) (gs:List V):Option (V×List Prop) :=
 match fv with
 | .fn (.func f) first cap=>some (r.re (outIds (ids.map (·.1)) n),[HCall P f ((first++gs++cap).map (V.re (inIds (ids.map (·.1)) 0))) Hs r H'])
 | .yld k=>some (r.re (outIds (ids.map (·.1)) n),[YCall P ((.yld k::gs).map (V.re (inIds (ids.map (·.1)) 0))) Hs r H'])
 | _=>none
def evBApp (tt:Tab) (o:Oper) (lk:Nat→Option V) (H:List O) (id:Nat) (kx ko:List Nat) (n:Nat) (xs:List D):Option (List (Nat×Option V)×List (Nat×O)×List Prop) :=
 match o.op with
 | .call c =>
  match c.callee,c.args.toList,c.argTypes.toList with
  | .builtin .append,[s,x],[t,t'] =>
   if t==t' then
    match tt.lookup t,getF lk s with
    | some i,.sl e id' 0 m =>
     if Nat.beq id' id then
      (evAppend tt i (.list n xs) [] H (.sl e id 0 m) (getF lk x)).map fun q =>
       (dstW o.dst q.1++kx.map (fun k=>(k,none)),(id,.data xs)::ko.map (fun k=>(k,(H.getD k default).only (· != id))),q.2.2.2)
     else none
    | _,_=>none
   else none
  | _,_,_=>none
 | _=>none
def evBHC (P:Program) (o:Oper) (ids:List (Nat×Bool)) (r:V) (H':List O) (lk:Nat→Option V) (H:List O):Option (List (Nat×Option V)×List (Nat×O)×List Prop) :=
 if nodupB (ids.map (·.1)) then
  match o.op with
  | .call c =>
   match c.callee with
   | .value f =>
    match subH H (ids.map (·.1)) ids,oldH H' (outIds (ids.map (·.1)) H.length) 0 ids with
    | some Hs,some olds =>
     match hcVal P ids r H' H.length Hs (getF lk f) (c.args.toList.map (getF lk)) with
     | some (v,ps)=>if Hs.all (fun o => !o.isData)&&Nat.beq H'.length ids.length then some (dstW o.dst v,(ids.map (·.1)).zip olds,ps) else none
     | none=>none
    | _,_=>none
   | _=>none
  | _=>none
 else none
def meetB (xs ys:List Nat):Bool:=xs.any fun x=>memB x ys
def selIs (n:Nat) (res:List Nat):List Nat:=(List.range n).map fun i=>match inIds res 0 i with
 | some j=>n+j
 | none=>i
def evBHCN (P:Program) (o:Oper) (ids:List (Nat×Bool)) (res ends:List Nat) (r:V) (H':List O) (lk:Nat→Option V) (H:List O):Option (List (Nat×Option V)×List (Nat×O)×List Prop) :=
 if nodupB (ids.map (·.1))&&nodupB res && !meetB (ids.map (·.1)) res&&ends==(List.range res.length).map (H.length + ·)&&res.all (fun q=>isRow0 H[q]?) then
  match o.op with
  | .call c =>
   match c.callee with
   | .value f =>
    match subH H (ids.map (·.1)) ids,oldH H' (outIds (ids.map (·.1)) H.length) 0 ids with
    | some Hs,some olds =>
     match hcVal P ids r H' H.length Hs (getF lk f) (c.args.toList.map (getF lk)) with
     | some (v,ps) =>
      if Hs.all (fun o => !o.isData)&&Nat.beq H'.length (ids.length+res.length) then
       some (dstW o.dst (v.re (inIds (selIs H.length res) 0)),(ids.map (·.1)).zip (olds.map (O.re (inIds (selIs H.length res) 0))) ++
        res.zip (((H'.drop ids.length).map (O.re (outIds (ids.map (·.1)) H.length))).map (O.re (inIds (selIs H.length res) 0))),ps)
      else none
     | none=>none
    | _,_=>none
   | _=>none
  | _=>none
 else none
def flagged (ids:List (Nat×Bool)):List Nat:=(ids.filter (·.2)).map (·.1)
def evB (P:Program) (tt:Tab) (N:Nat) (dsts:List (Option Tmp)) (o:Oper) (h:Hint) (lk:Nat→Option V) (H:List O):Option (List (Nat×Option V)×List (Nat×O)×List Prop) :=
 if dstOk N o.dst then
  match h with
  | .res r =>
   if isRow0 H[r]? && o.guard.isNone then
    match o.op with
    | .alloc t=>(tt.lookup t).map fun i=>(dstW o.dst (.ref r 0),[(r,.cells (i.zero.map fun z => .d (.v z)))],[])
    | .box _ x=>(getF lk x).cells.map fun vs=>(dstW o.dst (.ref r 0),[(r,.cells vs)],[])
    | .buildSlice t len parts=>if Nat.ble len 16777216 then (tt.lookup t).bind fun i=>(evBuildRow tt i (getF lk) len parts.toList).bind fun q=>(allD q.2).map fun ds=>(dstW o.dst (.sl q.1 r 0 len),[(r,.data ds)],[]) else none
    | _=>none
   else none
  | .hcall ids r H' =>
   if o.guard.isNone then
    (if ids.all (fun q => !q.2) then evBHC P o ids r H' lk H
    else evBHCN P o (ids.filter fun q => !q.2) ((flagged ids).take ((flagged ids).length / 2)) ((flagged ids).drop ((flagged ids).length / 2)) r H' lk H)
   else none
  | .rcall ids r =>
   if o.guard.isNone then
    match subH H (ids.map (·.1)) ids with
    | some Hs=>(evBHC P o ids r Hs lk H).map fun q=>(q.1,[],(q.2.1=ids.map fun i=>(i.1,H.getD i.1 default))::q.2.2)
    | none=>none
   else none
  | .app id kx ko n xs=>if o.guard.isNone then evBApp tt o lk H id kx ko n xs else none
  | h =>
   match o.op with
   | .store t x y =>
    if o.guard.isNone then
     match tt.lookup t,getF lk x with
     | some i,.ref id off=>(evStore i h [] H (.ref id off) (getF lk y)).map fun q=>(dstW o.dst .top,[(id,q.2.2.1.getD id default)],q.2.2.2)
     | _,_=>none
    else none
   | _=>if isEff o h then none else (evVal P tt dsts o h lk H).map fun q=>(dstW o.dst q.1,[],q.2)
 else none
structure BRec where
 sw:List (Nat×Option V)
 ow:List (Nat×O)
 foot:List Nat
 res:List Nat
 app:Option (Nat×List Nat×List Nat)
def appOf:Hint→Option (Nat×List Nat×List Nat)
 | .app id kx ko _ _=>some (id,kx,ko)
 | _=>none
def resOf:Hint→List Nat
 | .res r=>[r]
 | .hcall ids _ _=>flagged ids
 | _=>[]
def evBody (P:Program) (tt:Tab) (N:Nat) (dsts:List (Option Tmp)):List Oper→List Hint→(Nat→Option V)→List O→Option ((Nat→Option V)×List O×List Prop×List BRec)
 | [],_,lk,H=>some (lk,H,[],[])
 | o::os,hs,lk,H =>
  match evB P tt N dsts o (hs.headD .no) lk H with
  | none=>none
  | some (sw,ow,ps) =>
   match evBody P tt N dsts os hs.tail (updW lk sw) (setH H ow) with
   | none=>none
   | some (lk2,H2,qs,rs)=>some (lk2,H2,ps++qs,⟨sw,ow,footOf o (hs.headD .no) lk,resOf (hs.headD .no),appOf (hs.headD .no)⟩::rs)
def vIds:Option V→List Nat
 | some v=>v.ids
 | none=>[]
def namesB (r:Nat) (q:BRec):Bool:=q.sw.any (fun p=>memB r (vIds p.2))||q.ow.any (fun p=>memB r p.2.ids)
def namesA (a:Nat×List Nat×List Nat) (q:BRec):Bool:=q.sw.any (fun p=>memB a.1 (vIds p.2) && !memB p.1 a.2.1)||q.ow.any (fun p=>memB a.1 p.2.ids && !memB p.1 a.2.2)
def apart2 (dsts:List (Option Tmp)) (as:List Nat) (i j:Nat) (oi oj:Oper) (qi qj:BRec):Bool :=
 (hasB (as.getD j 0) i ||
  (!meetB (qi.sw.map (·.1)) (looks dsts oj) && !meetB (qi.sw.map (·.1)) (qj.sw.map (·.1)) && !meetB (qj.sw.map (·.1)) (looks dsts oi) &&
   !meetB (qi.ow.map (·.1)) qj.foot && !meetB (qi.ow.map (·.1)) (qj.ow.map (·.1)) && !meetB (qj.ow.map (·.1)) qi.foot)) &&
 (qi.res.all fun r=>hasB (as.getD j 0) i || !namesB r qj) &&
 (qj.res.all fun r => !namesB r qi) &&
 (match qi.app with
  | some a=>hasB (as.getD j 0) i || !namesA a qj
  | none=>true) &&
 (match qj.app with
  | some a => !namesA a qi
  | none=>true)
def pairs2 (dsts:List (Option Tmp)) (as:List Nat) (i:Nat) (oi:Oper) (qi:BRec):List Oper→List BRec→Nat→Bool
 | oj::os,qj::qs,j=>apart2 dsts as i j oi oj qi qj&&pairs2 dsts as i oi qi os qs (j+1)
 | _,_,_=>true
def allPairs2 (dsts:List (Option Tmp)) (as:List Nat):List Oper→List BRec→Nat→Bool
 | o::os,q::qs,i=>pairs2 dsts as i o q os qs (i+1)&&allPairs2 dsts as os qs (i+1)
 | _,_,_=>true
def resFresh (T:St) (H:List O) (rs:List BRec):Bool :=
 rs.all fun q=>q.res.all fun r=>T.all (fun p => !memB r p.2.ids)&&H.all (fun o => !memB r o.ids)
def appFresh (T:St) (H:List O) (rs:List BRec):Bool :=
 rs.all fun q=>match q.app with
  | some a=>T.all (fun p => !memB a.1 p.2.ids||memB p.1 a.2.1)&&H.zipIdx.all (fun o => !memB a.1 o.1.ids||memB o.2 a.2.2)
  | none=>true
def any0B (ops:List Oper) (m:Nat):Bool :=
 Nat.ble m ops.length&&allBackB ops 0&&tailB (ancs ops []) m (ops.length-m)
def evAny (P:Program) (tt:Tab) (N m:Nat) (ops:Array Oper) (hs:List Hint) (mid ks:List Nat) (T:St) (H:List O):Option (St×List O×List Prop) :=
 if any0B ops.toList m then
  match evBody P tt N (ops.toList.map (·.dst)) (ops.toList.take m) hs (fun x=>T.lookup x) H with
  | none=>none
  | some (lk1,H1,ps,rs) =>
   if allPairs2 (ops.toList.map (·.dst)) (ancs ops.toList []) (ops.toList.take m) rs 0&&resFresh T H rs&&appFresh T H rs then
    match evOps P tt N (ops.toList.map (·.dst)) (ops.toList.drop m) (hs.drop m) (mid.filterMap fun k=>(lk1 k).map fun v=>(k,v)) H1 with
    | none=>none
    | some (T2,H2,qs)=>some (keepT ks T2,H2,ps++qs)
   else none
 else none
end Go.Sx
end
