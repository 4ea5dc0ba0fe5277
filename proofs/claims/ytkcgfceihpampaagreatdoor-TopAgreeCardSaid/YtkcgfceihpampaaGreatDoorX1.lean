/- A calculus of abstract states for Go programs, part 1: what it computes is what the program does. -/
import Derived.Calls
import Derived.ChangeKeysEq
import Derived.Laws.Append
import Derived.Laws.AppendOwn
import Derived.Laws.Build
import Derived.Laws.Cells
import Derived.Laws.CopyRow
import Derived.Laws.Cover3
import Derived.Laws.Entries
import Derived.Laws.Pointers
import Derived.Laws.Sem
import Derived.Laws.Shifts
import Derived.Laws.StructEq
import Derived.Laws.World
import Derived.LoopN
import Derived.LoopNIn
import Derived.Orders
import Derived.OrdersIn
import Derived.RangeFuncRecord
section
namespace Go.Sx
abbrev Za:=@Option.bind_some
abbrev Zb:=@List.getElem?_eq_some_iff
abbrev Zc:=@Option.map_eq_some_iff
abbrev Zd:=@List.getElem?_eq_getElem
abbrev Ze:=@Prod.mk.injEq
abbrev Zf:=@Option.some.injEq
abbrev Zg:=@List.length_map
abbrev Zh:=@Bool.and_eq_true
abbrev Zi:=@Option.bind_eq_some_iff
abbrev Zj:=@List.getElem?_map
abbrev Zk:=@Bool.false_eq_true
abbrev Zm:=@Result.andThen_ok
abbrev Zn:=@List.getElem?_set
abbrev Zo:=@Option.map_some
abbrev Zp:=@Nat.le_of_ble_eq_true
abbrev Zq:=@List.mem_singleton
abbrev Zr:=@List.getElem?_take
abbrev Zs:=@Bool.not_false
abbrev Zt:=@Bool.not_true
abbrev Zu:=@Array.getD_eq_getD_getElem?
abbrev Zv:=@List.getD_eq_getElem?_getD
abbrev Zw:=@Nat.zero_add
abbrev Zx:=@Nat.le_refl
abbrev Zy:=@Sem.run_bind
abbrev Zz:=@List.mem_cons_of_mem
abbrev ZA:=@List.getElem?_append
abbrev ZB:=@List.all_eq_true
abbrev ZC:=@List.getElem?_eq_none
abbrev ZD:=@Bool.and_true
abbrev ZE:=@List.length_append
abbrev ZF:=@List.length_cons
abbrev ZG:=@List.mem_of_getElem?
abbrev ZH:=@List.take_of_length_le
abbrev ZI:=@Bool.and_self
abbrev ZJ:=@Sem.run_pure
abbrev ZK:=@List.getElem?_drop
abbrev ZL:=@Option.getD_some
abbrev ZM:=@List.mem_cons
abbrev ZN:=@List.mem_append_right
abbrev ZO:=@List.eq_nil_of_length_eq_zero
abbrev ZP:=@Array.getElem?_eq_some_iff
abbrev ZQ:=@Nat.mul_le_mul_right
abbrev ZR:=@List.length_set
abbrev ZS:=@List.length_take
abbrev ZT:=@List.getElem?_append_left
abbrev ZU:=@Nat.add_mul
abbrev ZV:=@List.lookup_cons
abbrev ZW:=@List.map_cons
abbrev ZX:=@List.mem_map
abbrev ZY:=@Bool.or_eq_true
abbrev ZZ:=@List.ext_getElem?
abbrev Z3:=@Nat.le_trans
abbrev Z4:=@List.mem_append
abbrev Z5:=@List.length_nil
abbrev Z6:=@List.map_congr_left
abbrev Z7:=@List.mem_append_left
abbrev Z8:=@List.length_drop
abbrev Z9:=@Nat.eq_of_beq_eq_true
abbrev Ya:=@List.take_append_of_le_length
abbrev Yb:=@List.mem_cons_self
abbrev Yc:=@Nat.eq_zero_or_pos
abbrev Yd:=@List.mem_iff_getElem?
abbrev Ye:=@Array.getElem?_append
abbrev Yf:=@List.drop_append_of_le_length
abbrev Yg:=@Nat.lt_of_lt_of_le
abbrev Yh:=@List.append_nil
abbrev Yi:=@List.append_assoc
abbrev Yj:=@List.flatMap_cons
abbrev Yk:=@List.drop_eq_getElem_cons
abbrev Yl:=@List.take_append_drop
abbrev Ym:=@List.mem_filter
abbrev Yn:=@List.mem_filterMap
abbrev Yo:=@List.drop_of_length_le
abbrev Yp:=@Nat.add_zero
abbrev Yq:=@Nat.sub_zero
abbrev Yr:=@Int.tdiv_eq_ediv_of_nonneg
abbrev Ys:=@List.drop_drop
abbrev Yt:=@Array.eq_empty_of_size_eq_zero
abbrev Yu:=@List.getElem_mem
abbrev Yv:=@Option.getD_none
abbrev Yw:=@Nat.mul_one
abbrev Yx:=@Option.ite_none_right_eq_some
abbrev Yy:=@List.length_eq_zero_iff
abbrev Yz:=@Nat.min_eq_left
abbrev YC:=@Array.length_toList
abbrev YD:=@Int.le_refl
abbrev YE:=@List.foldl_cons
abbrev YF:=@List.map_append
abbrev YG:=@List.map_take
end Go.Sx
namespace Go.Sx
set_option linter.unusedVariables false
inductive D where
 | any
 | v (x:Value)
 | list (tight:Bool) (e n:Nat) (cells:List D)
 | agg (cells:List D)
 | nl (e n:Nat) (cells:List D)
 | optr (b:Bool) (cells:List D)
 | ifo (o:Option TypeId) (x:D)
inductive V where
 | top
 | d (x:D)
 | ref (id off:Nat)
 | sl (e id off len:Nat)
 | rop (cells:List D)
 | mp (id:Nat)
 | yld (id:Nat)
 | fn (f:Fn) (first captured:List V)
 | agg (cells:List V)
 | tup (vs:List V)
 | when (b:Bool) (x:V)
instance:Inhabited D:=⟨.any⟩
instance:Inhabited V:=⟨.top⟩
def one (c:Value):Prop:=c.oneCell'=true
inductive RD (Z:Nat→Prop) (w:World):D→Value→Prop
 | any (c:Value) (h:one c):RD Z w .any c
 | v (x:Value) (h:one x):RD Z w (.v x) x
 | list0 (t:Bool) (e:Nat) (a:Option Addr) (cap:Nat) (h:t=true→cap=0):RD Z w (.list t e 0 []) (.slice a 0 cap)
 | list (t:Bool) (e n:Nat) (cells:List D) (ad:Addr) (cap:Nat) (f:Nat→Value) (hn:0<n) (hl:cells.length=n*e) (hz:Z ad.block) (hcap:n≤cap)
  (ht:t=true→cap=n) (hc:∀j,j<cells.length→w.cell? (ad.add j)=some (f j)) (h1:∀j,j<cells.length→one (f j))
  (hr:∀j x,cells[j]? = some x→RD Z w x (f j)):RD Z w (.list t e n cells) (.slice (some ad) n cap)
 | agg (cells:List D) (cs:Array Value) (f:Nat→Value) (hl:cs.size=cells.length) (hf:∀j,j<cs.size→cs[j]? = some (f j)) (h1:∀j,j<cells.length→one (f j))
  (hr:∀j x,cells[j]? = some x→RD Z w x (f j)):RD Z w (.agg cells) (.agg cs)
 | nl0 (e:Nat) (cells:List D):RD Z w (.nl e 0 cells) (.slice none 0 0)
 | nl (e n:Nat) (cells:List D) (c:Value) (hn:0<n) (h:RD Z w (.list false e n cells) c):RD Z w (.nl e n cells) c
 | optr0 (cells:List D):RD Z w (.optr false cells) (.pointer none)
 | optr (cells:List D) (ad:Addr) (f:Nat→Value) (hz:Z ad.block) (hc:∀j,j<cells.length→w.cell? (ad.add j)=some (f j)) (h1:∀j,j<cells.length→one (f j))
  (hr:∀j x,cells[j]? = some x→RD Z w x (f j)):RD Z w (.optr true cells) (.pointer (some ad))
 | ifo0 (x:D):RD Z w (.ifo none x) .nilIface
 | ifo (t:TypeId) (x:D) (c:Value) (h:RD Z w x c):RD Z w (.ifo (some t) x) (.iface t c)
abbrev Bs:=List (Option (Nat×Nat))
inductive RV (bs:Bs) (Z:Nat→Prop) (w:World):V→Value→Prop
 | top (c:Value):RV bs Z w .top c
 | d (x:D) (c:Value) (h:RD Z w x c):RV bs Z w (.d x) c
 | ref (id off b k:Nat) (h:bs[id]? = some (some (b,k))):RV bs Z w (.ref id off) (.pointer (some ⟨b,off,none⟩))
 | sl (e id off len b k cap:Nat) (h:bs[id]? = some (some (b,k))) (hcap:len≤cap) (hk:off+cap*e≤k) (hm:cap≤9223372036854775807):RV bs Z w (.sl e id off len) (.slice (some ⟨b,off,none⟩) len cap)
 | sl0 (e id:Nat) (h:bs[id]? = some none):RV bs Z w (.sl e id 0 0) (.slice none 0 0)
 | rop (cells:List D) (ad:Addr) (f:Nat→Value) (hz:Z ad.block) (hc:∀j,j<cells.length→w.cell? (ad.add j)=some (f j)) (h1:∀j,j<cells.length→one (f j))
  (hr:∀j x,cells[j]? = some x→RD Z w x (f j)):RV bs Z w (.rop cells) (.pointer (some ad))
 | mp (id b k:Nat) (h:bs[id]? = some (some (b,k))):RV bs Z w (.mp id) (.map (some b))
 | yld (id b k:Nat) (h:bs[id]? = some (some (b,k))):RV bs Z w (.yld id) (.func (.yield b) #[] #[])
 | fn (g:Fn) (first captured:List V) (fs cs:Array Value) (f k:Nat→Value) (hl:fs.size=first.length) (hl':cs.size=captured.length)
  (hf:∀j,j<fs.size→fs[j]? = some (f j)) (hk:∀j,j<cs.size→cs[j]? = some (k j))
  (hr:∀j x,first[j]? = some x→RV bs Z w x (f j)) (hr':∀j x,captured[j]? = some x→RV bs Z w x (k j)):RV bs Z w (.fn g first captured) (.func g fs cs)
 | agg (cells:List V) (cs:Array Value) (f:Nat→Value) (hl:cs.size=cells.length) (hf:∀j,j<cs.size→cs[j]? = some (f j)) (h1:∀j,j<cells.length→one (f j))
  (hr:∀j x,cells[j]? = some x→RV bs Z w x (f j)):RV bs Z w (.agg cells) (.agg cs)
 | tup (vs:List V) (cs:Array Value) (f:Nat→Value) (hl:cs.size=vs.length) (hf:∀j,j<cs.size→cs[j]? = some (f j))
  (hr:∀j x,vs[j]? = some x→RV bs Z w x (f j)):RV bs Z w (.tup vs) (.tuple cs)
 | when (b:Bool) (x:V) (c:Value) (h:b=true→RV bs Z w x c) (h':b=false→c=undef):RV bs Z w (.when b x) c
section mono
variable {Z Z':Nat→Prop} {w w':World} {bs bs':Bs}
theorem cell_of_heap {w w':World} {a:Addr} (h:w'.heap[a.block]? = w.heap[a.block]?):w'.cell? a=w.cell? a:=by
 unfold World.cell?;rw [h]
theorem add_block (a:Addr) (n:Nat):(a.add n).block=a.block:=by unfold Addr.add;split<;>rfl
theorem add_add (a:Addr) (i j:Nat):(a.add i).add j=a.add (i+j):=by
 unfold Addr.add;by_cases hi:i=0<;>by_cases hj:j=0<;>simp [hi,hj,Nat.add_assoc]
theorem RD.monoC {x:D} {c:Value} (h:RD Z w x c) (hZ:∀b,Z b→Z' b) (hw:∀a:Addr,Z a.block→w'.cell? a=w.cell? a):RD Z' w' x c:=by
 induction h with
 | any c h=>exact .any c h
 | v x h=>exact .v x h
 | list0 t e a cap h=>exact .list0 t e a cap h
 | list t e n cells ad cap f hn hl hz hcap ht hc h1 hr ih =>
  exact .list t e n cells ad cap f hn hl (hZ _ hz) hcap ht (fun j hj=>(hw _ (by rw [add_block];exact hz)).trans (hc j hj)) h1 ih
 | agg cells cs f hl hf h1 hr ih=>exact .agg cells cs f hl hf h1 ih
 | nl0 e cells=>exact .nl0 e cells
 | nl e n cells c hn h ih=>exact .nl e n cells c hn ih
 | optr0 cells=>exact .optr0 cells
 | optr cells ad f hz hc h1 hr ih=>exact .optr cells ad f (hZ _ hz) (fun j hj=>(hw _ (by rw [add_block];exact hz)).trans (hc j hj)) h1 ih
 | ifo0 x=>exact .ifo0 x
 | ifo t x c h ih=>exact .ifo t x c ih
theorem RD.mono {x:D} {c:Value} (h:RD Z w x c) (hZ:∀b,Z b→Z' b) (hw:∀b,Z b→w'.heap[b]? = w.heap[b]?):RD Z' w' x c :=
 h.monoC hZ fun a ha=>cell_of_heap (hw _ ha)
theorem RV.monoC {x:V} {c:Value} (h:RV bs Z w x c) (hb:∀(i:Nat) (o:Option (Nat×Nat)),bs[i]? = some o→bs'[i]? = some o) (hZ:∀b,Z b→Z' b) (hw:∀a:Addr,Z a.block→w'.cell? a=w.cell? a) :
 RV bs' Z' w' x c:=by
 induction h with
 | top c=>exact .top c
 | d x c h=>exact .d x c (h.monoC hZ hw)
 | ref id off b k h=>exact .ref id off b k (hb _ _ h)
 | sl e id off len b k cap h hc hk hm=>exact .sl e id off len b k cap (hb _ _ h) hc hk hm
 | sl0 e id h=>exact .sl0 e id (hb _ _ h)
 | rop cells ad f hz hc h1 hr =>
  exact .rop cells ad f (hZ _ hz) (fun j hj=>(hw _ (by rw [add_block];exact hz)).trans (hc j hj)) h1 (fun j x hx=>(hr j x hx).monoC hZ hw)
 | mp id b k h=>exact .mp id b k (hb _ _ h)
 | yld id b k h=>exact .yld id b k (hb _ _ h)
 | fn g first captured fs cs f k hl hl' hf hk hr hr' ih ih'=>exact .fn g first captured fs cs f k hl hl' hf hk ih ih'
 | agg cells cs f hl hf h1 hr ih=>exact .agg cells cs f hl hf h1 ih
 | tup vs cs f hl hf hr ih=>exact .tup vs cs f hl hf ih
 | when b x c h h' ih=>exact .when b x c ih h'
theorem RV.mono {x:V} {c:Value} (h:RV bs Z w x c) (hb:∀(i:Nat) (o:Option (Nat×Nat)),bs[i]? = some o→bs'[i]? = some o) (hZ:∀b,Z b→Z' b) (hw:∀b,Z b→w'.heap[b]? = w.heap[b]?) :
 RV bs' Z' w' x c:=h.monoC hb hZ fun a ha=>cell_of_heap (hw _ ha)
end mono
inductive O where
 | cells (xs:List V)
 | data (ds:List D)
 | fixed (ds:List D)
 | map (kvs:List (D×D))
 | loop (st:Option (Option Code)) (ps:List Tmp) (assign body:Code) (N:Nat) (T:List (Nat×V))
 | vec (xs:List V) (ns:List Int) (zs:List V)
 | bld (st:Option (Option (List UInt8×Nat)))
 | bldr (l:List UInt8)
def tailV (ns:List Int):List V→List V
 | []=>ns.map fun n => .d (.v (.int .i64 n))
 | z::zs=>(ns.map fun n => .d (.v (.int .i64 n)))++z::zs
theorem tailV_eq (ns:List Int) (zs:List V):tailV ns zs=(ns.map fun n => .d (.v (.int .i64 n)))++zs:=by
 cases zs with
 | nil=>simp [tailV]
 | cons z zs=>rfl
abbrev vecV (xs:List V) (ns:List Int) (zs:List V):List V:=xs++tailV ns zs
def O.isData:O→Bool
 | .data _=>true
 | .bldr _=>true
 | _=>false
instance:Inhabited O:=⟨.cells []⟩
def LoopOk (st:Option (Option Code)) (r:Loop):Prop :=
 match st with
 | none=>r.state = .busy
 | some p=>r.pending=p∧r.state=(if p.isNone then .ready else .done)
def okO (bs:Bs) (Z:Nat→Prop) (w:World):O→Option (Nat×Nat)→Prop
 | .cells xs,none=>xs=[]
 | .cells xs,some (b,k)=>∃(cs:Array Value) (t:TypeId),w.heap[b]? = some (.cells cs t (0,0))∧cs.size=k∧xs.length≤k ∧
  ∀(j:Nat) (x:V),xs[j]? = some x→∃c,cs[j]? = some c∧one c∧RV bs Z w x c
 | .data ds,none=>ds=[]
 | .data ds,some (b,k)=>∃(cs:Array Value) (t:TypeId),w.heap[b]? = some (.cells cs t (0,0))∧cs.size=k∧ds.length≤k ∧
  ∀(j:Nat) (x:D),ds[j]? = some x→∃c,cs[j]? = some c∧one c∧RD Z w x c
 | .fixed ds,none=>ds=[]
 | .fixed ds,some (b,k)=>∃(cs:Array Value) (t:TypeId),w.heap[b]? = some (.cells cs t (0,0))∧cs.size=k∧ds.length≤k ∧
  ∀(j:Nat) (x:D),ds[j]? = some x→∃c,cs[j]? = some c∧one c∧RD Z w x c
 | .map _,none=>False
 | .map kvs,some (b,_)=>∃(es:Array MapEntry) (k:Nat),w.heap[b]? = some (.map es k)∧es.size=kvs.length ∧
  ∀(j:Nat) (x:D×D),kvs[j]? = some x→∃e,es[j]? = some e∧RD Z w x.1 e.key∧RD Z w x.2 e.val
 | .vec xs ns zs,none=>vecV xs ns zs=[]
 | .vec xs ns zs,some (b,k)=>∃(cs:Array Value) (t:TypeId),w.heap[b]? = some (.cells cs t (0,0))∧cs.size=k∧(vecV xs ns zs).length≤k ∧
  ∀(j:Nat) (x:V),(vecV xs ns zs)[j]? = some x→∃c,cs[j]? = some c∧one c∧RV bs Z w x c
 | .bld none,_=>True
 | .bld (some _),none=>False
 | .bld (some none),some (b,_)=>w.heap[b]? = some (.cells #[.pointer none,.slice none 0 0] 275 (0,0))
 | .bld (some (some (l,j))),some (b,_)=>∃g cap,bs[j]? = some (some (g,cap))∧w.heap[b]? = some (.cells #[.pointer (some ⟨b,0,none⟩),.slice (some ⟨g,0,none⟩) l.length cap] 275 (0,0))∧l.length≤cap∧cap≤9223372036854775807
 | .bldr _,none=>False
 | .bldr l,some (g,cap)=>∃cur:Array Value,w.heap[g]? = some (.cells cur 5 (0,0))∧cur.size=cap∧cur.toList.take l.length=l.map fun b=>Value.int .u8 b.toNat
 | .loop _ _ _ _ _ _,none=>False
 | .loop st ps as bd N T,some (b,_)=>∃r:Loop,w.heap[b]? = some (.loop r)∧LoopOk st r∧r.params=ps.toArray∧r.assign=as∧r.body=bd∧r.tmps.size=N ∧
  ∀i x,(i,x)∈T→i<N∧RV bs Z w x (r.tmps.getD i undef)
def O.row:O→Option (List V)
 | .cells xs=>some xs
 | .data ds=>some (ds.map .d)
 | .fixed ds=>some (ds.map .d)
 | .map _=>none
 | .loop _ _ _ _ _ _=>none
 | .vec xs ns zs=>some (vecV xs ns zs)
 | .bld _=>none
 | .bldr _=>none
def rowAt (H:List O) (id:Nat):Option (List V):=(H[id]?).bind O.row
theorem okO.monoC {bs bs':Bs} {Z Z':Nat→Prop} {w w':World} {o:O} {b:Option (Nat×Nat)} (h:okO bs Z w o b) (hb:∀(i:Nat) (o:Option (Nat×Nat)),bs[i]? = some o→bs'[i]? = some o)
 (hZ:∀b,Z b→Z' b) (hw:∀a:Addr,Z a.block→w'.cell? a=w.cell? a) (hob:∀k q,b=some (k,q)→w'.heap[k]? = w.heap[k]?):okO bs' Z' w' o b:=by
 cases o with
 | cells xs =>
  cases b with
  | none=>exact h
  | some p =>
   obtain ⟨k,q⟩:=p;obtain ⟨cs,t,hh,hk,hl,hx⟩:=h;refine ⟨cs,t,(hob k q rfl).trans hh,hk,hl,fun j x hj=>?_⟩;obtain ⟨c,hc,h1,hr⟩:=hx j x hj;exact ⟨c,hc,h1,hr.monoC hb hZ hw⟩
 | vec ys ns ts =>
  cases b with
  | none=>exact h
  | some p =>
   obtain ⟨k,q⟩:=p;obtain ⟨cs,t,hh,hk,hl,hx⟩:=h;refine ⟨cs,t,(hob k q rfl).trans hh,hk,hl,fun j x hj=>?_⟩;obtain ⟨c,hc,h1,hr⟩:=hx j x hj;exact ⟨c,hc,h1,hr.monoC hb hZ hw⟩
 | bld st =>
  cases st with
  | none=>cases b<;>trivial
  | some st =>
   cases b with
   | none=>exact h.elim
   | some p =>
    obtain ⟨k,q⟩:=p;cases st with
    | none=>exact (hob k q rfl).trans h
    | some s =>
     obtain ⟨l,j⟩:=s;obtain ⟨g,cap,h1,h2,h3,h4⟩:=h;exact ⟨g,cap,hb j _ h1,(hob k q rfl).trans h2,h3,h4⟩
 | bldr l =>
  cases b with
  | none=>exact h
  | some p =>
   obtain ⟨g,cap⟩:=p;obtain ⟨cur,h1,h2,h3⟩:=h;exact ⟨cur,(hob g cap rfl).trans h1,h2,h3⟩
 | data ds =>
  cases b with
  | none=>exact h
  | some p =>
   obtain ⟨k,q⟩:=p;obtain ⟨cs,t,hh,hk,hl,hx⟩:=h;refine ⟨cs,t,(hob k q rfl).trans hh,hk,hl,fun j x hj=>?_⟩;obtain ⟨c,hc,h1,hr⟩:=hx j x hj;exact ⟨c,hc,h1,hr.monoC hZ hw⟩
 | fixed ds =>
  cases b with
  | none=>exact h
  | some p =>
   obtain ⟨k,q⟩:=p;obtain ⟨cs,t,hh,hk,hl,hx⟩:=h;refine ⟨cs,t,(hob k q rfl).trans hh,hk,hl,fun j x hj=>?_⟩;obtain ⟨c,hc,h1,hr⟩:=hx j x hj;exact ⟨c,hc,h1,hr.monoC hZ hw⟩
 | map kvs =>
  cases b with
  | none=>exact h
  | some p =>
   obtain ⟨k,q⟩:=p;obtain ⟨es,q',hh,hl,hx⟩:=h;refine ⟨es,q',(hob k q rfl).trans hh,hl,fun j x hj=>?_⟩;obtain ⟨e,he,h1,h2⟩:=hx j x hj;exact ⟨e,he,h1.monoC hZ hw,h2.monoC hZ hw⟩
 | loop st ps as bd N T =>
  cases b with
  | none=>exact h
  | some p =>
   obtain ⟨k,q⟩:=p;obtain ⟨r,h1,h2,h3,h4,h5,h6,h7⟩:=h;exact ⟨r,(hob k q rfl).trans h1,h2,h3,h4,h5,h6,fun i x hx=>⟨(h7 i x hx).1,(h7 i x hx).2.monoC hb hZ hw⟩⟩
theorem okO.mono {bs bs':Bs} {Z Z':Nat→Prop} {w w':World} {o:O} {b:Option (Nat×Nat)} (h:okO bs Z w o b) (hb:∀(i:Nat) (o:Option (Nat×Nat)),bs[i]? = some o→bs'[i]? = some o)
 (hZ:∀b,Z b→Z' b) (hw:∀b,Z b→w'.heap[b]? = w.heap[b]?) (hob:∀k q,b=some (k,q)→w'.heap[k]? = w.heap[k]?):okO bs' Z' w' o b :=
 h.monoC hb hZ (fun a ha=>cell_of_heap (hw _ ha)) hob
abbrev St:=List (Nat×V)
def layTab:Array Value:=((List.range 20).map fun i=>Value.int .u64 ((10^i:Nat):Int)).toArray
structure Lay (Z:Nat→Prop) (w:World):Prop where
 z0:Z 0
 z1:Z 1
 h0:∃m t f,w.heap[0]? = some (.cells #[.int .i64 m] t f)
 h1:∃t f,w.heap[1]? = some (.cells layTab t f)
theorem Lay.mono {Z Z':Nat→Prop} {w w':World} (h:Lay Z w) (hZ:∀b,Z b→Z' b) (hw:∀b,b<2→w'.heap[b]? = w.heap[b]?):Lay Z' w' :=
 ⟨hZ 0 h.z0,hZ 1 h.z1,by rw [hw 0 (by omega)];exact h.h0,by rw [hw 1 (by omega)];exact h.h1⟩
theorem Lay.lt {Z:Nat→Prop} {w:World} (h:Lay Z w):1<w.heap.size:=by obtain ⟨t,f,h⟩:=h.h1;exact (ZP.1 h).1
structure Ctx where
 w0:World
 Z0:Nat→Prop
 B0:Nat→Prop
 lay:Lay Z0 w0
 layB:∀b,b<2→¬B0 b

 dfr:List Deferred:=[]

 pin:Nat→Option (Option (Nat×Nat)):=fun _=>none
 n0:Nat:=0
 pinlt:∀i p,pin i=some p→i<n0:=by intro i p h;simp at h
structure InvW (Γ:Ctx) (H:List O) (bs:Bs) (Z:Nat→Prop) (w:World):Prop where
 lenH:bs.length=H.length
 objs:∀(i:Nat) (o:O) (b:Option (Nat×Nat)),H[i]? = some o→bs[i]? = some b→okO bs Z w o b
 nodup:∀(i j:Nat) (b k k':Nat),bs[i]? = some (some (b,k))→bs[j]? = some (some (b,k'))→i=j
 disj:∀(i:Nat) (b k:Nat),bs[i]? = some (some (b,k))→¬Z b
 lt:∀(i:Nat) (b k:Nat),bs[i]? = some (some (b,k))→b<w.heap.size
 zlt:∀b,Z b→b<w.heap.size
 z0:∀b,Γ.Z0 b→Z b
 fresh:∀(i:Nat) (b k:Nat),bs[i]? = some (some (b,k))→Γ.w0.heap.size≤b∨Γ.B0 b
 zfresh:∀b,Z b→Γ.Z0 b∨Γ.w0.heap.size≤b∨Γ.B0 b
 size:Γ.w0.heap.size≤w.heap.size
 frame:∀b,b < Γ.w0.heap.size→¬Γ.B0 b→w.heap[b]? = Γ.w0.heap[b]?
 os:w.os=Γ.w0.os
 tape:w.tape=Γ.w0.tape
 output:w.output=Γ.w0.output
 pin:∀i p,Γ.pin i=some p→bs[i]? = some p∧∃o,H[i]? = some o∧o.isData=false
theorem InvW.lay {Γ:Ctx} {H:List O} {bs:Bs} {Z:Nat→Prop} {w:World} (h:InvW Γ H bs Z w):Lay Z w:=Γ.lay.mono h.z0 fun b hb=>h.frame b (by have:=Γ.lay.lt;omega) (Γ.layB b hb)
theorem InvW.dfr {Γ:Ctx} {H:List O} {bs:Bs} {Z:Nat→Prop} {w:World} (h:InvW Γ H bs Z w) (ds:List Deferred):InvW { Γ with dfr:=ds } H bs Z w:=⟨h.lenH,h.objs,h.nodup,h.disj,h.lt,h.zlt,h.z0,h.fresh,h.zfresh,h.size,h.frame,h.os,h.tape,h.output,h.pin⟩
theorem InvW.undfr {Γ:Ctx} {H:List O} {bs:Bs} {Z:Nat→Prop} {w:World} {ds:List Deferred} (h:InvW { Γ with dfr:=ds } H bs Z w):InvW Γ H bs Z w:=⟨h.lenH,h.objs,h.nodup,h.disj,h.lt,h.zlt,h.z0,h.fresh,h.zfresh,h.size,h.frame,h.os,h.tape,h.output,h.pin⟩
def markOf (d:Nat):Deferred:={ target := .collected d,args := #[] }
def DefOk (Γ:Ctx) (Z:Nat→Prop) (w:World) (ds:List Deferred):Prop :=
 ∃l:List Nat,ds=l.map markOf++Γ.dfr∧l.Nodup∧∀d∈l,Γ.w0.heap.size≤d∧Z d∧w.heap[d]? = some (.deferred (some []))
theorem DefOk.mono {Γ:Ctx} {Z Z':Nat→Prop} {w w':World} {ds:List Deferred} (h:DefOk Γ Z w ds) (hZ:∀b,Z b→Z' b) (hw:∀b,Z b→w'.heap[b]? = w.heap[b]?):DefOk Γ Z' w' ds:=by
 obtain ⟨l,h1,h2,h3⟩:=h;exact ⟨l,h1,h2,fun d hd=>⟨(h3 d hd).1,hZ _ (h3 d hd).2.1,(hw _ (h3 d hd).2.1).trans (h3 d hd).2.2⟩⟩
theorem DefOk.nil {Γ:Ctx} {Z:Nat→Prop} {w:World} (h:Γ.dfr=[]):DefOk Γ Z w []:=⟨[],by simp [h],List.nodup_nil,fun d h=>by simp at h⟩
structure InvT (N:Nat) (Γ:Ctx) (T:St) (bs:Bs) (Z:Nat→Prop) (a:Act) (w:World):Prop where
 size:a.tmps.size=N
 defers:DefOk Γ Z w a.defers
 rel:∀i x,(i,x)∈T→i<N∧RV bs Z w x (a.tmps.getD i undef)
def Inv (N:Nat) (Γ:Ctx) (T:St) (H:List O) (a:Act) (w:World):Prop :=
 ∃bs Z,InvW Γ H bs Z w∧InvT N Γ T bs Z a w
mutual

inductive LeD:D→D→Prop
 | rfl {x:D}:LeD x x
 | nil {e:Nat}:LeD (.v (.slice none 0 0)) (.list false e 0 [])
 | loose {e n:Nat} {cells:List D}:LeD (.list true e n cells) (.list false e n cells)
 | onl {e n:Nat} {cells:List D} (h:n=0→cells=[]):LeD (.nl e n cells) (.list false e n cells)
 | tonl {e n:Nat} {cells:List D} (h:0<n):LeD (.list false e n cells) (.nl e n cells)
 | nilnl {e:Nat} {cells:List D}:LeD (.v (.slice none 0 0)) (.nl e 0 cells)
 | pnil {cells:List D}:LeD (.v (.pointer none)) (.optr false cells)
 | inil {x:D}:LeD (.v .nilIface) (.ifo none x)
 | agg {xs ys:List D} (h:LeDs xs ys):LeD (.agg xs) (.agg ys)
inductive LeDs:List D→List D→Prop
 | nil:LeDs [] []
 | cons {x y:D} {xs ys:List D} (h:LeD x y) (h':LeDs xs ys):LeDs (x::xs) (y::ys)
end
section
variable {Z:Nat→Prop} {w:World}
theorem LeDs.len:∀{xs ys:List D},LeDs xs ys→xs.length=ys.length
 | _,_,.nil=>rfl
 | _,_,.cons _ h'=>by simp [h'.len]
mutual
theorem RD.leR {x y:D} {c:Value}:LeD x y→RD Z w x c→RD Z w y c
 | .rfl,h=>h
 | .nil,h=>by cases h;exact .list0 _ _ _ _ (by simp)
 | .onl hn,h=>by
  cases h with
  | nl0=>obtain rfl:=hn rfl;exact .list0 _ _ _ _ (by simp)
  | nl _ _ _ _ _ h=>exact h
 | .tonl hn,h => .nl _ _ _ _ hn h
 | .nilnl,h=>by cases h;exact .nl0 _ _
 | .pnil,h=>by cases h;exact .optr0 _
 | .inil,h=>by cases h;exact .ifo0 _
 | .loose,h=>by
  cases h with
  | list0 _ _ _ _ h=>exact .list0 _ _ _ _ (by simp)
  | list _ _ _ _ ad cap f hn hl hz hcap ht hc h1 hr=>exact .list _ _ _ _ ad cap f hn hl hz hcap (by simp) hc h1 hr
 | .agg hs,h=>by
  cases h with
  | agg _ cs f hl hf h1 hr=>exact .agg _ cs f (hl.trans hs.len) hf (fun j hj=>h1 j (by rw [hs.len];exact hj)) (RD.les hs f hr)
theorem RD.les {xs ys:List D}:LeDs xs ys→∀f:Nat→Value,(∀(j:Nat) x,xs[j]? = some x→RD Z w x (f j))→∀(j:Nat) y,ys[j]? = some y→RD Z w y (f j)
 | .nil,f,h,j,y,hy=>by simp at hy
 | .cons h1 h2,f,h,0,y,hy=>by simp at hy;subst hy;exact RD.leR h1 (h 0 _ rfl)
 | .cons h1 h2,f,h,j+1,y,hy=>by
  simp only [List.getElem?_cons_succ] at hy;exact RD.les h2 (fun j=>f (j+1)) (fun j x hx=>h (j+1) x (by simpa using hx)) j y hy
end
end
theorem RD.le {Z:Nat→Prop} {w:World} {x y:D} {c:Value} (h:RD Z w x c) (hl:LeD x y):RD Z w y c:=RD.leR hl h
end Go.Sx
end
section
namespace Go.Sx
inductive TK where
 | int (k:IntKind)
 | bool
 | string
 | struct (fs:List (Nat×Nat×Bool))
 | array (n e:Nat)
 | slice (e:Nat)
 | map (k v:Nat)
 | other
structure TI where
 size:Nat
 bytes:Nat
 agg:Bool
 zero:List Value
 kind:TK
abbrev Tab:=List (Nat×TI)
def TK.ok (P:Program):TK→TypeDesc→Prop
 | .int k,d=>d = .int k
 | .bool,d=>d = .bool
 | .string,d=>d = .string
 | .struct fs,d=>∃fields,d = .struct fields∧fs.length=fields.size∧∀j:Nat,∀f,fields[j]? = some f→∃i u,P.info? f.type=some i∧P.underlying f.type=some u ∧
  fs[j]? = some (f.offset,i.size,(u matches .struct _ | .array _ _))∧0<i.size
 | .array n e,d=>d = .array n e
 | .slice e,d=>d = .slice e
 | .map k v,d=>d = .map k v
 | .other,d=>(d matches .pointer _ | .func ..)=true
def _root_.Go.Value.isAgg:Value→Bool
 | .agg _=>true
 | _=>false
structure TI.ok (P:Program) (t:TypeId) (i:TI):Prop where
 info:∃info z,P.info? t=some info∧info.size=i.size∧info.bytes=i.bytes∧info.zero=some z∧z.cells.toList=i.zero
 kind:∃d,P.underlying t=some d∧TK.ok P i.kind d∧i.agg=(d matches .struct _ | .array _ _)
 ones:∀c∈i.zero,c.oneCell'=true
 zlen:i.zero.length=i.size
 zagg:∀info z,P.info? t=some info→info.zero=some z→z.isAgg=i.agg
def Tab.ok (P:Program) (tt:Tab):Prop:=∀t i,tt.lookup t=some i→TI.ok P t i
inductive Hint where
 | no
 | own
 | cells (xs:List D)
 | vals (vs:List V)
 | list (n:Nat) (xs:List D)
 | call (args:List D) (r:V)
 | listT (n:Nat) (xs:List D)
 | hcall (ids:List (Nat×Bool)) (r:V) (H':List O)
 | gcall (ids:List (Nat×Bool)) (r:V) (H' Hn:List O)
 | rcall (ids:List (Nat×Bool)) (r:V)
 | nums (ns:List Int)
 | res (r:Nat)
 | kvs (l:List (D×D))
 | look (x:D) (b:Bool)
 | isT (h:Hint)
 | isF
 | nil (b:Bool)
 | eqs (b:Bool)
 | app (id:Nat) (kx ko:List Nat) (n:Nat) (xs:List D)
abbrev vi (n:Int):V := .d (.v (.int .i64 n))
abbrev vb (b:Bool):V := .d (.v (.bool b))
def constV (v:Value):V:=if v.oneCell' then .d (.v v) else .top
def getV (T:St):Operand→V
 | .tmp t=>(T.lookup t).getD .top
 | .const v=>constV v
 | .func f => .fn (.func f) [] []
 | .global _ => .top
def V.bare:V→V
 | .when _ x=>x
 | x=>x
def V.cond:V→List Bool
 | .when b _=>[b]
 | _=>[]
def takeN {α:Type}:Nat→List α→Option (List α)
 | 0,_=>some []
 | _+1,[]=>none
 | n+1,x::xs=>(takeN n xs).map (x :: ·)
def allD:List V→Option (List D)
 | []=>some []
 | .d x::vs=>(allD vs).map (x :: ·)
 | _::_=>none
def V.cells:V→Option (List V)
 | .agg cs=>some cs
 | .d (.agg ds)=>some (ds.map .d)
 | .top=>none
 | .when _ _=>none
 | .tup _=>none
 | x=>some [x]
def mkAgg (vs:List V):V :=
 match allD vs with
 | some ds => .d (.agg ds)
 | none => .agg vs
def mkVal (agg:Bool) (vs:List V):Option V :=
 if agg then some (mkAgg vs) else match vs with
  | [x]=>some x
  | _=>none
def mkD (agg:Bool) (ds:List D):Option D :=
 if agg then some (.agg ds) else match ds with
  | [x]=>some x
  | _=>none
def IdxOk (cells:List D) (e n:Nat) (i:Int) (ec:List D):Prop:=0≤i∧i<n∧(cells.drop (i.toNat*e)).take e=ec∧ec.length=e
def LoadOk (xs:List V) (off s:Nat) (vs:List V):Prop:=(xs.drop off).take s=vs∧vs.length=s
def SliceOk (cells:List D) (e n:Nat) (lo hi:Int) (m:Nat) (out:List D):Prop :=
 0≤lo∧lo≤hi∧hi≤n∧m=(hi-lo).toNat∧out=(cells.drop (lo.toNat*e)).take (m*e)
def binInt (op:BinOp) (k:IntKind) (a b:Int):Option (V×List Prop) :=
 match op with
 | .add=>some (.d (.v (.int k (k.wrap (a+b)))),[])
 | .sub=>some (.d (.v (.int k (k.wrap (a-b)))),[])
 | .mul=>some (.d (.v (.int k (k.wrap (a*b)))),[])
 | .quo=>some (.d (.v (.int k (k.wrap (a.tdiv b)))),[b≠0])
 | .rem=>some (.d (.v (.int k (a.tmod b))),[b≠0])
 | .eql=>some (vb (a==b),[])
 | .neq=>some (vb (a != b),[])
 | .lss=>some (vb (decide (a<b)),[])
 | .leq=>some (vb (decide (a≤b)),[])
 | .gtr=>some (vb (decide (a>b)),[])
 | .geq=>some (vb (decide (a≥b)),[])
 | .and=>some (.d (.v (.int k (Go.bits .and k a b))),[])
 | .or=>some (.d (.v (.int k (Go.bits .or k a b))),[])
 | .xor=>some (.d (.v (.int k (Go.bits .xor k a b))),[])
 | _=>none
def evShift (op:BinOp) (k:IntKind) (a b:Int):Option (V×List Prop) :=
 match op with
 | .shl=>some (.d (.v (.int k (k.wrap (a*2^min b.toNat k.bits)))),[0≤b])
 | .shr=>some (.d (.v (.int k (a / 2^min b.toNat k.bits))),[0≤b])
 | _=>none
def maxI (k:IntKind):Int→List V→Option V
 | x,[]=>some (.d (.v (.int k x)))
 | x,.d (.v (.int _ y))::vs=>maxI k (if y>x then y else x) vs
 | _,_=>none
def minI (k:IntKind):Int→List V→Option V
 | x,[]=>some (.d (.v (.int k x)))
 | x,.d (.v (.int _ y))::vs=>minI k (if y<x then y else x) vs
 | _,_=>none
def IntKind.same:IntKind→IntKind→Bool
 | .i8,.i8 | .i16,.i16 | .i32,.i32 | .i64,.i64 | .u8,.u8 | .u16,.u16 | .u32,.u32 | .u64,.u64=>true
 | _,_=>false
def putAt {α:Type}:List α→Nat→List α→List α
 | xs,_,[]=>xs
 | xs,n,y::ys=>putAt (xs.set n y) (n+1) ys
def buildFrom (place:Nat→Option (Nat×Nat)) (get:Operand→V):List V→List (Nat×Operand)→Option (List V)
 | xs,[]=>some xs
 | xs,(i,o)::ps =>
  match place i,(get o).cells with
  | some (off,s),some vs=>if vs.length==s&&Nat.ble (off+s) xs.length then buildFrom place get (putAt xs off vs) ps else none
  | _,_=>none
def buildRow (e:Nat) (get:Operand→V):Nat→List (Nat×Operand)→Option (List V)
 | _,[]=>some []
 | k,(i,o)::ps =>
  match (get o).cells with
  | some vs=>if vs.length==e&&i==k then (buildRow e get (k+1) ps).map (vs ++ ·) else none
  | none=>none
def argOk (H:List O):V→D→Prop
 | .d x,y=>x=y
 | .fn g [] [],y=>y = .v (.func g #[] #[])
 | .sl e' id off n,.list false e m ds=>e'=e∧m=n∧ds.length=n*e∧∃xs,rowAt H id=some xs∧(xs.drop off).take (n*e)=ds.map .d∧off+n*e≤xs.length
 | _,_=>False
def argsOk (H:List O):List V→List D→Prop
 | [],[]=>True
 | v::vs,d::ds=>argOk H v d∧argsOk H vs ds
 | _,_=>False
def D.flat:D→Bool
 | .v _=>true
 | _=>false
def V.flat:V→Bool
 | .d (.v _)=>true
 | .d (.agg ds)=>ds.all D.flat
 | _=>false
def flatR:V→Bool
 | .tup vs=>vs.all V.flat
 | x=>x.flat
structure Grow (Z:Nat→Prop) (w:World) (Z':Nat→Prop) (w':World):Prop where
 os:w'.os=w.os
 tape:w'.tape=w.tape
 output:w'.output=w.output
 size:w.heap.size≤w'.heap.size
 heap:∀b,b<w.heap.size→w'.heap[b]? = w.heap[b]?
 zs:∀b,Z b→Z' b
 znew:∀b,Z' b→Z b∨(w.heap.size≤b∧b<w'.heap.size)
def FnOk (P:Program) (f:FuncId):Prop:=∃fn,P.funcs[f]? = some fn∧(fn.name == "runtime.NumGoroutine")=false∧fn.body.isNone=false
structure PCall (P:Program) (f:FuncId) (args:List D) (r:V):Prop where
 ok:FnOk P f
 run:∀(Z:Nat→Prop) (w:World) (cs:Array Value),(∀b,Z b→b<w.heap.size)→Lay Z w→cs.size=args.length →
  (∀(j:Nat) x c,args[j]? = some x→cs[j]? = some c→RD Z w x c) →
  Calls P f cs w (fun e w'=>∃c Z',e = .returned c∧Grow Z w Z' w'∧RV [] Z' w' r c)
def evPick:V→V→V→Option (V×List Prop)
 | .d (.v (.bool c)),.when g (.d (.v (.bool x))),.d (.v (.bool y))=>some (vb (cond c x y),[c=true→g=true])
 | .d (.v (.bool c)),.d (.v (.bool x)),.when g (.d (.v (.bool y)))=>some (vb (cond c x y),[c=false→g=true])
 | .d (.v (.bool c)),.d (.v (.bool x)),.d (.v (.bool y))=>some (vb (cond c x y),[])
 | _,_,_=>none
def evLoad (i:TI) (h:Hint) (H:List O):V→Option (V×List Prop)
 | .ref id off =>
  match rowAt H id,h with
  | some xs,.vals vs=>(mkVal i.agg vs).map fun v=>(v,[LoadOk xs off i.size vs])
  | some xs,.cells ds=>(mkD i.agg ds).map fun x=>(.d x,[LoadOk xs off i.size (ds.map .d)])
  | some xs,_=>((takeN i.size (xs.drop off)).bind (mkVal i.agg)).map fun v=>(v,[])
  | _,_=>none
 | .rop cells =>
  match h with
  | .cells ds=>(mkD i.agg ds).map fun x=>(.d x,[cells.take i.size=ds∧ds.length=i.size])
  | _=>((takeN i.size cells).bind (mkD i.agg)).map fun x=>(.d x,[])
 | _=>none
def evFieldAddr (i:TI) (f:Nat):V→Option (V×List Prop)
 | .ref id off =>
  match i.kind with
  | .struct fs=>(fs[f]?).map fun p=>(.ref id (off+p.1),[])
  | _=>none
 | .rop cells =>
  match i.kind with
  | .struct fs=>(fs[f]?).map fun p=>(.rop (cells.drop p.1),[])
  | _=>none
 | _=>none
def evField (i:TI) (f:Nat):V→Option (V×List Prop)
 | .d (.agg ds) =>
  match i.kind with
  | .struct fs=>(fs[f]?).bind fun p=>((takeN p.2.1 (ds.drop p.1)).bind (mkD p.2.2)).map fun x=>(.d x,[])
  | _=>none
 | .agg vs =>
  match i.kind with
  | .struct fs=>(fs[f]?).bind fun p=>((takeN p.2.1 (vs.drop p.1)).bind (mkVal p.2.2)).map fun x=>(x,[])
  | _=>none
 | _=>none
def evIndexAddr (tt:Tab) (i:TI) (h:Hint):V→V→Option (V×List Prop)
 | .d (.list _ e n cells),.d (.v (.int _ k)) =>
  match i.kind,h with
  | .slice t,.cells ec=>(tt.lookup t).bind fun it=>if it.size==e then some (.rop ec,[IdxOk cells e n k ec]) else none
  | _,_=>none
 | .sl e id off n,.d (.v (.int _ k)) =>
  match i.kind with
  | .slice t=>(tt.lookup t).bind fun it=>if it.size==e then some (.ref id (off+k.toNat*it.size),[0≤k∧k<(n:Int)]) else none
  | _=>none
 | .ref id off,.d (.v (.int _ k)) =>
  match i.kind with
  | .array n t=>(tt.lookup t).map fun it=>(.ref id (off+k.toNat*it.size),[0≤k∧k<(n:Int)])
  | _=>none
 | .rop cells,.d (.v (.int _ k)) =>
  match i.kind,h with
  | .array n t,.cells ec=>(tt.lookup t).map fun it=>(.rop ec,[IdxOk cells it.size n k ec])
  | _,_=>none
 | .d (.nl e n cells),.d (.v (.int _ k)) =>
  match i.kind,h with
  | .slice t,.cells ec=>(tt.lookup t).bind fun it=>if it.size==e then some (.rop ec,[IdxOk cells e n k ec]) else none
  | _,_=>none
 | _,_=>none
def StrAt (s:ByteArray) (k c:Int):Prop:=0≤k∧(s[k.toNat]?.map fun b=>(b.toNat:Int))=some c
def evIndex (tt:Tab) (i:TI) (h:Hint):V→V→Option (V×List Prop)
 | .d (.v (.string s)),.d (.v (.int _ k)) =>
  match i.kind,h with
  | .string,.cells [.v (.int .u8 c)]=>some (.d (.v (.int .u8 c)),[StrAt s k c])
  | _,_=>none
 | .d (.agg cells),.d (.v (.int _ k)) =>
  match i.kind,h with
  | .array n t,.cells ec=>(tt.lookup t).bind fun it=>(mkD it.agg ec).map fun x=>(.d x,[IdxOk cells it.size n k ec])
  | _,_=>none
 | _,_=>none
def boundI:Option V→Int→Option Int
 | none,n=>some n
 | some (.d (.v (.int _ k))),_=>some k
 | _,_=>none
def evSlice (tt:Tab) (i:TI) (h:Hint) (H:List O) (lo hi:Option V):V→Option (V×List Prop)
 | .d (.list _ e n cells) =>
  match i.kind,h,boundI lo 0,boundI hi n with
  | .slice t,.list m out,some l,some u=>(tt.lookup t).bind fun it=>if it.size==e then some (.d (.list false e m out),[SliceOk cells e n l u m out]) else none
  | _,_,_,_=>none
 | .sl e id off n =>
  match i.kind,boundI lo 0,boundI hi n with
  | .slice t,some l,some u=>(tt.lookup t).bind fun it=>if it.size==e then some (.sl e id (off+l.toNat*it.size) (u-l).toNat,[0≤l∧l≤u∧u≤n∧(l=0∨l<n)]) else none
  | _,_,_=>none
 | .ref id off =>
  match i.kind with
  | .array n t =>
   match boundI lo 0,boundI hi n,rowAt H id with
   | some l,some u,some xs=>(tt.lookup t).map fun it=>(.sl it.size id (off+l.toNat*it.size) (u-l).toNat,[0≤l∧l≤u∧u≤n∧(l=0∨l<n)∧off+n*it.size≤xs.length∧n≤9223372036854775807])
   | _,_,_=>none
  | _=>none
 | .rop cells =>
  match i.kind with
  | .array n t =>
   match h,boundI lo 0,boundI hi n with
   | .list m out,some l,some u=>(tt.lookup t).map fun it=>(.d (.list false it.size m out),[SliceOk cells it.size n l u m out∧cells.length=n*it.size])
   | _,_,_=>none
  | _=>none
 | .d (.v (.string s)) =>
  match i.kind,boundI lo 0,boundI hi s.size with
  | .string,some l,some u=>some (.d (.v (.string (s.extract l.toNat u.toNat))),[0≤l∧l≤u∧u≤s.size])
  | _,_,_=>none
 | _=>none
def evLen (H:List O):V→Option (V×List Prop)
 | .d (.list _ _ n _)=>some (vi n,[])
 | .d (.nl _ n _)=>some (vi n,[])
 | .sl _ _ _ n=>some (vi n,[])
 | .d (.v (.slice none 0 0))=>some (vi 0,[])
 | .d (.v (.string s))=>some (vi s.size,[])
 | .mp id =>
  match H[id]? with
  | some (.map kvs)=>some (vi kvs.length,[])
  | _=>none
 | _=>none
def evBuild (i:TI) (get:Operand→V) (parts:List (Nat×Operand)) (size:Nat→Option Nat):Option (V×List Prop) :=
 match i.kind with
 | .struct fs=>(buildFrom (fun j=>(fs[j]?).map fun p=>(p.1,p.2.1)) get (i.zero.map fun z => .d (.v z)) parts).map fun vs=>(mkAgg vs,[])
 | .array _ t=>(size t).bind fun s=>(buildFrom (fun j=>some (j*s,s)) get (i.zero.map fun z => .d (.v z)) parts).map fun vs=>(mkAgg vs,[])
 | _=>none
def laxH:Hint→V×List Prop→Option (V×List Prop)
 | .cells ys,(.d (.agg xs),ps)=>some (.d (.agg ys),LeDs xs ys::ps)
 | .cells _,_=>none
 | _,q=>some q
def evBuildRow (tt:Tab) (i:TI) (get:Operand→V) (len:Nat) (parts:List (Nat×Operand)):Option (Nat×List V) :=
 match i.kind with
 | .slice t=>(tt.lookup t).bind fun it=>if parts.length==len&&Nat.ble (len*it.size) 16777216 then (buildRow it.size get 0 parts).map fun vs=>(it.size,vs) else none
 | _=>none
def evConvert (i:TI):V→Option (V×List Prop)
 | .d (.v (.int _ n)) =>
  match i.kind with
  | .int k=>some (.d (.v (.int k (k.wrap n))),[])
  | _=>none
 | _=>none
def evBin (op:BinOp):V→V→Option (V×List Prop)
 | .d (.v (.int k a)),.d (.v (.int k' b)) =>
  match evShift op k a b with
  | some q=>some q
  | none=>if IntKind.same k k' then binInt op k a b else none
 | .d (.v (.string a)),.d (.v (.string b)) =>
  match op with
  | .add=>some (.d (.v (.string (a++b))),[a.size+b.size≤9223372036854775807])
  | _=>none
 | _,_=>none
def NilIs (x:D) (b:Bool):Prop:=(b=true∧x = .v (.slice none 0 0))∨(b=false∧∃t e n cells,0<n∧x = .list t e n cells)∨∃e n cells,x = .nl e n cells∧b=Nat.beq n 0
def evNil (tt:Tab) (op:BinOp) (t:TypeId) (b:Bool):V→V→Option (V×List Prop)
 | .d x,.d (.v (.slice none 0 0)) =>
  match (tt.lookup t).map TI.kind,op with
  | some (.slice _),.eql=>some (vb b,[NilIs x b])
  | some (.slice _),.neq=>some (vb (!b),[NilIs x b])
  | _,_=>none
 | _,_=>none
def scal:D→D→Option Bool
 | .v (.int k a),.v (.int k' b)=>if IntKind.same k k' then some (a==b) else none
 | .v (.bool a),.v (.bool b)=>some (a==b)
 | .v (.string a),.v (.string b)=>some (a==b)
 | _,_=>none
def eqL:List D→List D→Option Bool
 | [],[]=>some true
 | [x],[y]=>scal x y
 | x::xs,y::ys =>
  match scal x y,eqL xs ys with
  | some a,some b=>some (a&&b)
  | _,_=>none
 | _,_=>none
def eqD:D→D→Option Bool
 | .agg xs,.agg ys=>eqL xs ys
 | x,y=>scal x y
def scalB (P:Program) (t:TypeId) (x:D):Bool :=
 match P.underlying t,x with
 | some (.int _),.v (.int _ _)=>true
 | some .bool,.v (.bool _)=>true
 | some .string,.v (.string _)=>true
 | _,_=>false
def eqFieldsB (P:Program):List Field→Nat→List D→Bool
 | [],_,[]=>true
 | f::fs,k,x::xs=>f.name != "_" && Nat.beq f.offset k&&scalB P f.type x&&eqFieldsB P fs (k+1) xs
 | _,_,_=>false
def eqB (P:Program) (t:TypeId) (x:D):Bool :=
 match x with
 | .agg xs =>
  !P.stoodInHeld t && !P.eqGuardType P.depth t &&
  (match P.underlying t with
   | some (.struct fs)=>eqFieldsB P fs.toList 0 xs
   | some (.array n e)=>Nat.beq (P.cellsOf e) 1&&(P.info? e).isSome&&Nat.beq xs.length n&&xs.all (scalB P e)
   | _=>false)
 | x=>scalB P t x
def nestB (P:Program) (t:TypeId) (x:D):Bool :=
 match x with
 | .agg xs =>
  !P.stoodInHeld t && !P.eqGuardType P.depth t &&
  (match P.underlying t with
   | some (.array n e) =>
    match P.underlying e with
    | some (.array m s)=>Nat.beq (P.cellsOf e) m&&Nat.beq (P.cellsOf s) 1&&(P.info? e).isSome&&(P.info? s).isSome&&Nat.beq xs.length (n*m)&&xs.all (scalB P s)
    | _=>false
   | _=>false)
 | _=>false
def eqFieldsS (P:Program):List Field→Nat→List D→Bool
 | [],_,[]=>true
 | [],_,_::_=>false
 | f::fs,k,xs=>f.name != "_" && Nat.beq f.offset k &&
  (match P.underlying f.type with
   | some (.struct gs)=>Nat.beq (P.cellsOf f.type) gs.size&&(P.info? f.type).isSome && !P.stoodInHeld f.type&&Nat.ble gs.size xs.length&&eqFieldsB P gs.toList 0 (xs.take gs.size)&&eqFieldsS P fs (k+gs.size) (xs.drop gs.size)
   | _ =>
    match xs with
    | []=>false
    | x::xs=>scalB P f.type x&&eqFieldsS P fs (k+1) xs)
def nestS (P:Program) (t:TypeId) (x:D):Bool :=
 match x with
 | .agg xs =>
  !P.stoodInHeld t && !P.eqGuardType P.depth t &&
  (match P.underlying t with
   | some (.struct fs)=>eqFieldsS P fs.toList 0 xs
   | _=>false)
 | _=>false
def eqB2 (P:Program) (t:TypeId) (x:D):Bool:=eqB P t x||(nestB P t x||nestS P t x)
theorem eqB2_of {P:Program} {t:TypeId} {x:D} (h:eqB P t x=true):eqB2 P t x=true:=by unfold eqB2;rw [h,Bool.true_or]
def arrB (P:Program) (t:TypeId):Bool :=
 match P.underlying t with
 | some (.array _ _)=>true
 | _=>false
def arrP (P:Program) (t:TypeId) (x:D):List Prop:=if arrB P t then [eqB P t x=true] else []
theorem eqB_of {P:Program} {t:TypeId} {x:D} {p:Prop} (h:(arrB P t||eqB P t x)=true) (hp:∀q∈p::arrP P t x,q):eqB P t x=true:=by
 unfold arrP at hp;cases ha:arrB P t with
 | true=>rw [ha,if_pos rfl] at hp;exact hp _ (by simp)
 | false=>rw [ha] at h;exact h
def lookD (k:D):List (D×D)→Nat→Option (Option (Nat×D))
 | [],_=>some none
 | q::qs,i =>
  match eqD k q.1 with
  | some true=>some (some (i,q.2))
  | some false=>lookD k qs (i+1)
  | none=>none
def setD (k v:D):List (D×D)→Option (List (D×D))
 | []=>some [(k,v)]
 | q::qs =>
  match eqD k q.1 with
  | some true=>some ((k,v)::qs)
  | some false=>(setD k v qs).map (q :: ·)
  | none=>none
def LookOk (kvs:List (D×D)) (k z x:D) (b:Bool):Prop:=∃r,lookD k kvs 0=some r∧r.map (·.2)=(if b then some x else none)∧(b=false→x=z)
def evPtr (P:Program) (op:BinOp) (t:TypeId) (b:Bool):Option (V×List Prop) :=
 match P.underlying t with
 | some (.pointer _) =>
  match op with
  | .eql=>some (vb b,[])
  | .neq=>some (vb (!b),[])
  | _=>none
 | _=>none
def evIfc (P:Program) (op:BinOp) (t:TypeId):V→Operand→Option (V×List Prop)
 | .d (.ifo o _),.const .nilIface =>
  match P.underlying t with
  | some (.interface _) =>
   match op with
   | .eql=>some (vb o.isNone,[])
   | .neq=>some (vb (!o.isNone),[])
   | _=>none
  | _=>none
 | .d (.v .nilIface),.const .nilIface =>
  match P.underlying t with
  | some (.interface _) =>
   match op with
   | .eql=>some (vb true,[])
   | .neq=>some (vb false,[])
   | _=>none
  | _=>none
 | _,_=>none
def concB (P:Program) (t:TypeId):Bool :=
 match P.underlying t with
 | some (.struct _)=>true
 | _=>false
def evAssert (P:Program) (t:TypeId):V→Option (V×List Prop)
 | .d (.ifo o _)=>if concB P t then some (.tup [.top,vb (o==some t)],[]) else none
 | _=>none
def evIfM (P:Program) (t:TypeId):V→Option (V×List Prop)
 | .d x=>if concB P t then some (.d (.ifo (some t) x),[]) else none
 | _=>none
def invF (P:Program) (t:TypeId) (name:String):Option FuncId :=
 match P.info? t,concB P t with
 | some i,true =>
  match i.methods.find? (·.name==name) with
  | some m =>
   match m.path.toList,m.func with
   | [],some (f,false)=>some f
   | _,_=>none
  | none=>none
 | _,_=>none
def evInv (P:Program) (h:Hint) (name:String):V→List V→Option (V×List Prop)
 | .d (.ifo o x),args =>
  match h,allD args with
  | .call _ r,some ds=>some (r,[∃t f,o=some t∧invF P t name=some f∧PCall P f (x::ds) r])
  | _,_=>none
 | _,_=>none
def evEq (P:Program) (op:BinOp) (t:TypeId):V→V→Option (V×List Prop)
 | .ref _ _,.d (.v (.pointer none))=>evPtr P op t false
 | .d (.v (.pointer none)),.d (.v (.pointer none))=>evPtr P op t true
 | .d (.optr b _),.d (.v (.pointer none))=>evPtr P op t (!b)
 | .d x,.d y =>
  match op with
  | .eql=>if eqB P t x then (eqD x y).map fun r=>(vb r,[]) else none
  | .neq=>if eqB P t x then (eqD x y).map fun r=>(vb (!r),[]) else none
  | _=>none
 | _,_=>none
def evEqs (P:Program) (op:BinOp) (t:TypeId) (b:Bool):V→V→Option (V×List Prop)
 | .d x,.d y =>
  match op with
  | .eql=>some (vb b,[eqB2 P t x=true,eqD x y=some b])
  | .neq=>some (vb (!b),[eqB2 P t x=true,eqD x y=some b])
  | _=>none
 | _,_=>none
def evBin2 (P:Program) (op:BinOp) (t:TypeId) (x y:V):Option (V×List Prop) :=
 match evBin op x y with
 | some q=>some q
 | none=>evEq P op t x y
def evLook (P:Program) (tt:Tab) (i:TI) (h:Hint) (H:List O) (ok:Bool):V→V→Option (V×List Prop)
 | .mp id,.d kd =>
  match H[id]?,i.kind,h with
  | some (.map kvs),.map kt et,.look x b =>
   (tt.lookup et).bind fun ie=>(mkD ie.agg (ie.zero.map .v)).bind fun z =>
    if arrB P kt||eqB P kt kd then some (if ok then .tup [.d x,vb b] else .d x,LookOk kvs kd z x b::arrP P kt kd) else none
  | _,_,_=>none
 | _,_=>none
def evUn (op:UnOp):V→Option (V×List Prop)
 | .d (.v (.bool b)) =>
  match op with
  | .not=>some (vb (!b),[])
  | _=>none
 | .d (.v (.int k n)) =>
  match op with
  | .neg=>some (.d (.v (.int k (k.wrap (0-n)))),[])
  | _=>none
 | _=>none
def evCall (P:Program) (h:Hint) (H:List O) (f:V) (args:List V):Option (V×List Prop) :=
 match f,h with
 | .fn (.func f) [] [],.call ds r =>
  match allD args with
  | some ds'=>some (r,[PCall P f ds' r])
  | none=>if flatR r then some (r,[argsOk H args ds,PCall P f ds r]) else none
 | .fn (.func f) first cap,.call _ r =>
  match allD (first++args++cap) with
  | some ds'=>some (r,[PCall P f ds' r])
  | none=>none
 | _,_=>none
def lenKind:TK→V→Bool
 | .slice _,.d (.list ..)=>true
 | .slice _,.d (.nl ..)=>true
 | .slice _,.sl .. => true
 | .slice _,.d (.v (.slice ..))=>true
 | .string,.d (.v (.string _))=>true
 | .map _ _,.mp _=>true
 | _,_=>false
def AppendOk (xs:List V) (n m k e bytes:Nat) (src out:List D):Prop :=
 k=n+m∧xs.length=n*e∧src.length=m*e∧(n+m)*bytes≤140737488355328∧n+m≤9223372036854775807∧out.map .d=xs++src.map .d
def srcOf (e:Nat):V→Option (Nat×List D)
 | .d (.list _ e' m cells)=>if e'==e then some (m,cells) else none
 | .d (.v (.slice none 0 0))=>some (0,[])
 | _=>none
def evAppendT (tt:Tab) (i:TI) (h:Hint):V→V→Option (V×List Prop)
 | .d (.list true e n cells),x =>
  match i.kind,h,srcOf e x with
  | .slice t,.listT k out,some (m,src) =>
   (tt.lookup t).bind fun it=>if it.size==e&&Nat.blt 0 e then some (.d (.list false e k out),[AppendOk (cells.map .d) n m k e it.bytes src out]) else none
  | _,_,_=>none
 | _,_=>none
def evLenC (tt:Tab) (H:List O) (get:Operand→V):List Operand→List TypeId→Option (V×List Prop)
 | [x],t::_=>(tt.lookup t).bind fun i=>if lenKind i.kind (get x) then evLen H (get x) else none
 | _,_=>none
def evAppC (tt:Tab) (h:Hint) (get:Operand→V):List Operand→List TypeId→Option (V×List Prop)
 | [s,x],[t,t']=>if t==t' then (tt.lookup t).bind fun i=>evAppendT tt i h (get s) (get x) else none
 | _,_=>none
def evPure (P:Program) (tt:Tab) (o:Oper) (h:Hint) (get:Operand→V) (H:List O):Option (V×List Prop) :=
 match o.op with
 | .move x | .assign x=>some (get x,[])
 | .pick c a b=>evPick (get c) (get a) (get b)
 | .load t a=>(tt.lookup t).bind fun i=>evLoad i h H (get a)
 | .fieldAddr s x f=>(tt.lookup s).bind fun i=>evFieldAddr i f (get x)
 | .field s x f=>(tt.lookup s).bind fun i=>evField i f (get x)
 | .indexAddr t x k=>(tt.lookup t).bind fun i=>evIndexAddr tt i h (get x) (get k)
 | .index t x k=>(tt.lookup t).bind fun i=>evIndex tt i h (get x) (get k)
 | .slice t x lo hi none=>(tt.lookup t).bind fun i=>evSlice tt i h H (lo.map get) (hi.map get) (get x)
 | .extract t k =>
  match get t with
  | .tup vs=>(vs[k]?).map fun v=>(v,[])
  | _=>none
 | .build t parts=>(tt.lookup t).bind fun i=>(evBuild i get parts.toList fun e=>(tt.lookup e).map (·.size)).bind (laxH h)
 | .buildSlice t len parts =>
  match h with
  | .own=>none
  | .cells _=>(tt.lookup t).bind fun i=>(evBuildRow tt i get len parts.toList).bind fun (e,vs)=>(allD vs).map fun ds=>(.d (.list true e len ds),[])
  | _=>(tt.lookup t).bind fun i=>(evBuildRow tt i get len parts.toList).bind fun (e,vs)=>(allD vs).map fun ds=>(.d (.list false e len ds),[])
 | .binOp op t x y _ =>
  match h with
  | .nil b=>evNil tt op t b (get x) (get y)
  | .eqs b=>evEqs P op t b (get x) (get y)
  | _ =>
   match evIfc P op t (get x) y with
   | some q=>some q
   | none=>evBin2 P op t (get x) (get y)
 | .makeInterface t x=>evIfM P t (get x)
 | .typeAssert x _ t true=>(tt.lookup t).bind fun _=>evAssert P t (get x)
 | .lookup t x k ok=>(tt.lookup t).bind fun i=>evLook P tt i h H ok (get x) (get k)
 | .unOp op _ x=>evUn op (get x)
 | .convert s t x=>(tt.lookup s).bind fun _=>(tt.lookup t).bind fun i=>evConvert i (get x)
 | .nilCheck x =>
  match get x with
  | .ref id off=>some (.ref id off,[])
  | .rop cells=>some (.rop cells,[])
  | .d x =>
   match h with
   | .cells cs=>some (.rop cs,[x = .optr true cs])
   | _=>none
  | _=>none
 | .makeFunc g first captured=>some (.fn g (first.toList.map get) (captured.toList.map get),[])
 | .call c =>
  match c.callee with
  | .builtin .len=>evLenC tt H get c.args.toList c.argTypes.toList
  | .builtin .max=>match c.args.toList.map get with
   | .d (.v (.int k x))::vs=>(maxI k x vs).map fun v=>(v,[])
   | _=>none
  | .builtin .min=>match c.args.toList.map get with
   | .d (.v (.int k x))::vs=>(minI k x vs).map fun v=>(v,[])
   | _=>none
  | .builtin .append=>evAppC tt h get c.args.toList c.argTypes.toList
  | .value f=>evCall P h H (get f) (c.args.toList.map get)
  | .invoke x name=>evInv P h name (get x) (c.args.toList.map get)
  | _=>none
 | _=>none
end Go.Sx
end
section
namespace Go.Sx
open Go
section lists
variable {bs:Bs} {Z:Nat→Prop} {w:World}
def RVL (bs:Bs) (Z:Nat→Prop) (w:World) (vs:List V) (cs:List Value):Prop :=
 cs.length=vs.length∧∀(j:Nat) x c,vs[j]? = some x→cs[j]? = some c→one c∧RV bs Z w x c
def RDL (Z:Nat→Prop) (w:World) (vs:List D) (cs:List Value):Prop :=
 cs.length=vs.length∧∀(j:Nat) x c,vs[j]? = some x→cs[j]? = some c→one c∧RD Z w x c
theorem RDL.toV {ds:List D} {cs:List Value} (h:RDL Z w ds cs):RVL bs Z w (ds.map .d) cs:=by
 refine ⟨by simpa using h.1,fun j x c hx hc=>?_⟩;rw [Zj] at hx;cases hd:ds[j]? with
 | none=>simp [hd] at hx
 | some y =>
  simp [hd] at hx;subst hx;have:=h.2 j y c hd hc;exact ⟨this.1,.d _ _ this.2⟩
theorem RVL.toD {ds:List D} {cs:List Value} (h:RVL bs Z w (ds.map .d) cs):RDL Z w ds cs:=by
 refine ⟨by simpa using h.1,fun j x c hx hc=>?_⟩;have:=h.2 j (.d x) c (by simp [hx]) hc;exact ⟨this.1,by cases this.2 with|d _ _ h=>exact h⟩
theorem RVL.take {vs:List V} {cs:List Value} (h:RVL bs Z w vs cs) (n:Nat):RVL bs Z w (vs.take n) (cs.take n):=by
 refine ⟨by simp [h.1],fun j x c hx hc=>?_⟩;rw [Zr] at hx hc;split at hx<;>simp_all;exact h.2 j x c hx hc
theorem RVL.drop {vs:List V} {cs:List Value} (h:RVL bs Z w vs cs) (n:Nat):RVL bs Z w (vs.drop n) (cs.drop n):=by
 refine ⟨by simp [h.1],fun j x c hx hc=>?_⟩;rw [ZK] at hx hc;exact h.2 _ x c hx hc
theorem RVL.append {vs us:List V} {cs ds:List Value} (h:RVL bs Z w vs cs) (h':RVL bs Z w us ds):RVL bs Z w (vs++us) (cs++ds):=by
 refine ⟨by simp [h.1,h'.1],fun j x c hx hc=>?_⟩;rw [ZA] at hx hc;rw [h.1] at hc;split at hx
 ·rename_i hlt;rw [if_pos hlt] at hc;exact h.2 j x c hx hc
 ·rename_i hlt;rw [if_neg hlt] at hc;exact h'.2 _ x c hx hc
theorem RVL.nil:RVL bs Z w [] []:=⟨rfl,fun j x c h=>by simp at h⟩
theorem RVL.cons {v:V} {vs:List V} {c:Value} {cs:List Value} (h1:one c) (h:RV bs Z w v c) (h':RVL bs Z w vs cs):RVL bs Z w (v::vs) (c::cs):=by
 refine ⟨by simp [h'.1],fun j x k hx hc=>?_⟩;cases j with
 | zero=>simp at hx hc;subst hx;subst hc;exact ⟨h1,h⟩
 | succ j=>simp at hx hc;exact h'.2 j x k hx hc
theorem RVL.set {vs:List V} {cs:List Value} {v:V} {c:Value} (h:RVL bs Z w vs cs) (n:Nat) (h1:one c) (hv:RV bs Z w v c):RVL bs Z w (vs.set n v) (cs.set n c):=by
 refine ⟨by simp [h.1],fun j x k hx hc=>?_⟩;rw [Zn] at hx hc;split at hx
 ·rename_i e;rw [if_pos e] at hc;split at hx<;>split at hc<;>simp at hx hc;subst hx;subst hc;exact ⟨h1,hv⟩
 ·rename_i e;rw [if_neg e] at hc;exact h.2 j x k hx hc
theorem putAt_length {α:Type} (us:List α):∀(vs:List α) (n:Nat),(putAt vs n us).length=vs.length:=by
 induction us with
 | nil=>intro vs n;rfl
 | cons u us ih=>intro vs n;simp [putAt,ih]
theorem putAt_eq {α:Type} (us:List α):∀(vs:List α) (n:Nat),n+us.length≤vs.length→putAt vs n us=vs.take n++us++vs.drop (n+us.length):=by
 induction us with
 | nil=>intro vs n h;simp [putAt]
 | cons u us ih =>
  intro vs n h;simp at h;rw [putAt,ih _ _ (by simp;omega)];apply ZZ;intro j;simp only [Yi,ZA,ZS,ZR,Zr,Zn,ZK,ZF,List.getElem?_cons];rw [Yz (by omega),Yz (by omega)];rcases Nat.lt_trichotomy j n with hj|hj|hj
  ·simp [show j<n+1 by omega,show ¬n=j by omega,hj]
  ·subst hj;simp [show j<vs.length by omega]
  ·simp only [show ¬j<n+1 by omega,show ¬j<n by omega,if_false,show ¬(j-n=0) by omega];rw [show j-(n+1)=j-n-1 by omega];by_cases h2:j-n-1<us.length
   ·simp [h2,show j-n<us.length+1 by omega]
   ·simp only [h2,if_false,show ¬(j-n<us.length+1) by omega];rw [if_neg (by omega)];congr 1;omega
theorem RVL.putAt {us:List V}:∀{vs:List V} {cs ds:List Value} (n:Nat),RVL bs Z w vs cs→RVL bs Z w us ds→RVL bs Z w (putAt vs n us) (Sx.putAt cs n ds):=by
 induction us with
 | nil =>
  intro vs cs ds n h h';have:ds=[]:=ZO h'.1;subst this;exact h
 | cons u us ih =>
  intro vs cs ds n h h';cases ds with
  | nil=>have:=h'.1;simp at this
  | cons d ds =>
   have h0:=h'.2 0 u d rfl rfl;have ht:RVL bs Z w us ds:=⟨by have:=h'.1;simpa using this,fun j x c hx hc=>h'.2 (j+1) x c (by simpa using hx) (by simpa using hc)⟩
   exact ih (n+1) (h.set n h0.1 h0.2) ht
theorem RV.one {v:V} {c:Value} (h:RV bs Z w v c) {vs:List V} (hv:v.cells=some vs):RVL bs Z w vs c.cells.toList:=by
 cases h with
 | top c=>simp [V.cells] at hv
 | when b x c h h'=>simp [V.cells] at hv
 | tup us cs f hl hf hr=>simp [V.cells] at hv
 | agg cells cs f hl hf h1 hr =>
  simp [V.cells] at hv;subst hv;refine ⟨by simpa [Value.cells] using hl,fun j x c hx hc=>?_⟩;have hj:j<cells.length:=(Zb.1 hx).1;simp [Value.cells] at hc;have:=hf j (by omega);rw [hc] at this;simp at this;subst this;exact ⟨h1 j hj,hr j x hx⟩
 | d x c h =>
  cases h with
  | agg cells cs f hl hf h1 hr =>
   simp [V.cells] at hv;subst hv;refine RDL.toV ⟨by simpa [Value.cells] using hl,fun j x c hx hc=>?_⟩;have hj:j<cells.length:=(Zb.1 hx).1;simp [Value.cells] at hc;have:=hf j (by omega);rw [hc] at this;simp at this;subst this;exact ⟨h1 j hj,hr j x hx⟩
  | any c h1 =>
   simp [V.cells] at hv;subst hv;cases c<;>simp [Sx.one,Value.oneCell'] at h1<;>exact RVL.cons rfl (.d _ _ (.any _ rfl)) RVL.nil
  | v c h1 =>
   simp [V.cells] at hv;subst hv;cases c<;>simp [Sx.one,Value.oneCell'] at h1<;>exact RVL.cons rfl (.d _ _ (.v _ rfl)) RVL.nil
  | nl0 e cs=>simp [V.cells] at hv;subst hv;exact RVL.cons rfl (.d _ _ (.nl0 e cs)) RVL.nil
  | nl e n cs c hn h =>
   simp [V.cells] at hv;subst hv;have h':=h;cases h' with
   | list0=>exact absurd hn (by simp)
   | list=>exact RVL.cons rfl (.d _ _ (.nl e n cs _ hn h)) RVL.nil
  | optr0 cs=>simp [V.cells] at hv;subst hv;exact RVL.cons rfl (.d _ _ (.optr0 cs)) RVL.nil
  | optr cs ad f hz hc h1 hr=>simp [V.cells] at hv;subst hv;exact RVL.cons rfl (.d _ _ (.optr cs ad f hz hc h1 hr)) RVL.nil
  | ifo0 x=>simp [V.cells] at hv;subst hv;exact RVL.cons rfl (.d _ _ (.ifo0 x)) RVL.nil
  | ifo t x c h=>simp [V.cells] at hv;subst hv;exact RVL.cons rfl (.d _ _ (.ifo t x c h)) RVL.nil
  | list0 t e a cap h=>simp [V.cells] at hv;subst hv;exact RVL.cons rfl (.d _ _ (.list0 t e a cap h)) RVL.nil
  | list t e n cells ad cap f hn hl hz hcap ht hc h1 hr =>
   simp [V.cells] at hv;subst hv;exact RVL.cons rfl (.d _ _ (.list t e n cells ad cap f hn hl hz hcap ht hc h1 hr)) RVL.nil
 | ref id off b k h=>simp [V.cells] at hv;subst hv;exact RVL.cons rfl (.ref id off b k h) RVL.nil
 | sl e id off len b k cap h hc hk hm=>simp [V.cells] at hv;subst hv;exact RVL.cons rfl (.sl e id off len b k cap h hc hk hm) RVL.nil
 | sl0 e id h=>simp [V.cells] at hv;subst hv;exact RVL.cons rfl (.sl0 e id h) RVL.nil
 | rop cells ad f hz hc h1 hr=>simp [V.cells] at hv;subst hv;exact RVL.cons rfl (.rop cells ad f hz hc h1 hr) RVL.nil
 | mp id b k h=>simp [V.cells] at hv;subst hv;exact RVL.cons rfl (.mp id b k h) RVL.nil
 | yld id b k h=>simp [V.cells] at hv;subst hv;exact RVL.cons rfl (.yld id b k h) RVL.nil
 | fn g first captured fs cs f k hl hl' hf hk hr hr'=>simp [V.cells] at hv;subst hv;exact RVL.cons rfl (.fn g first captured fs cs f k hl hl' hf hk hr hr') RVL.nil
theorem allD_map:∀{vs:List V} {ds:List D},allD vs=some ds→vs=ds.map .d:=by
 intro vs;induction vs with
 | nil=>intro ds h;simp [allD] at h;subst h;rfl
 | cons v vs ih =>
  intro ds h;cases v<;>simp [allD] at h;obtain ⟨a,ha,rfl⟩:=h;simp [ih ha]
theorem RD.ofL {ds:List D} {cs:List Value} (h:RDL Z w ds cs):RD Z w (.agg ds) (.agg cs.toArray):=by
 refine .agg ds cs.toArray (fun j=>cs.getD j undef) (by simpa using h.1) (fun j hj=>?_) (fun j hj=>?_) (fun j x hx=>?_)
 ·simp at hj;simp [hj,List.getD]
 ·have hj':j<cs.length:=by rw [h.1];exact hj
  have:=(h.2 j ds[j] cs[j] (Zd hj) (Zd hj')).1;simpa [List.getD,hj'] using this
 ·have hj:j<ds.length:=(Zb.1 hx).1;have hj':j<cs.length:=by rw [h.1];exact hj
  have:=(h.2 j x cs[j] hx (Zd hj')).2;simpa [List.getD,hj'] using this
theorem RV.ofL {vs:List V} {cs:List Value} (h:RVL bs Z w vs cs):RV bs Z w (.agg vs) (.agg cs.toArray):=by
 refine .agg vs cs.toArray (fun j=>cs.getD j undef) (by simpa using h.1) (fun j hj=>?_) (fun j hj=>?_) (fun j x hx=>?_)
 ·simp at hj;simp [hj,List.getD]
 ·have hj':j<cs.length:=by rw [h.1];exact hj
  have:=(h.2 j vs[j] cs[j] (Zd hj) (Zd hj')).1;simpa [List.getD,hj'] using this
 ·have hj:j<vs.length:=(Zb.1 hx).1;have hj':j<cs.length:=by rw [h.1];exact hj
  have:=(h.2 j x cs[j] hx (Zd hj')).2;simpa [List.getD,hj'] using this
theorem RV.mkAgg {vs:List V} {cs:List Value} (h:RVL bs Z w vs cs):RV bs Z w (mkAgg vs) (.agg cs.toArray):=by
 unfold Sx.mkAgg;split
 ·rename_i ds he;have:=allD_map he;subst this;exact .d _ _ (RD.ofL h.toD)
 ·exact RV.ofL h
def valOf (agg:Bool) (cs:List Value):Value:=if agg then .agg cs.toArray else cs.getD 0 undef
theorem RV.mkVal {agg:Bool} {vs:List V} {cs:List Value} {v:V} (h:RVL bs Z w vs cs) (hv:mkVal agg vs=some v):RV bs Z w v (valOf agg cs):=by
 unfold Sx.mkVal at hv;cases agg with
 | true=>simp at hv;subst hv;simpa [valOf] using RV.mkAgg h
 | false =>
  simp at hv;split at hv<;>simp at hv;subst hv;rename_i x
  match cs,h with
  | [c],h=>exact (h.2 0 x c rfl rfl).2
  | [],h=>have:=h.1;simp at this
  | _::_::_,h=>have:=h.1;simp at this
theorem RD.mkD {agg:Bool} {ds:List D} {cs:List Value} {x:D} (h:RDL Z w ds cs) (hv:mkD agg ds=some x):RD Z w x (valOf agg cs):=by
 unfold Sx.mkD at hv;cases agg with
 | true=>simp at hv;subst hv;simpa [valOf] using RD.ofL h
 | false =>
  simp at hv;split at hv<;>simp at hv;subst hv;rename_i x
  match cs,h with
  | [c],h=>exact (h.2 0 x c rfl rfl).2
  | [],h=>have:=h.1;simp at this
  | _::_::_,h=>have:=h.1;simp at this
theorem takeN_eq {α:Type}:∀{n:Nat} {xs ys:List α},takeN n xs=some ys→xs.take n=ys∧ys.length=n:=by
 intro n;induction n with
 | zero=>intro xs ys h;cases xs<;>simp [takeN] at h<;>subst h<;>simp
 | succ n ih =>
  intro xs ys h;cases xs with
  | nil=>simp [takeN] at h
  | cons x xs =>
   simp [takeN] at h;obtain ⟨a,ha,rfl⟩:=h;have:=ih ha;simp [this.1,this.2]
end lists
end Go.Sx
end
section
namespace Go.Sx
open Go
theorem Grow.refl (Z:Nat→Prop) (w:World):Grow Z w Z w:=⟨rfl,rfl,rfl,Zx _,fun _ _=>rfl,fun _ h=>h,fun _ h => .inl h⟩
theorem Grow.trans {Z Z1 Z2:Nat→Prop} {w w1 w2:World} (h:Grow Z w Z1 w1) (k:Grow Z1 w1 Z2 w2):Grow Z w Z2 w2 :=
 ⟨k.os.trans h.os,k.tape.trans h.tape,k.output.trans h.output,Z3 h.size k.size,fun b hb=>(k.heap b (Yg hb h.size)).trans (h.heap b hb),
  fun b hb=>k.zs b (h.zs b hb),fun b hb=>by
   rcases k.znew b hb with h1|h1
   ·rcases h.znew b h1 with h2|h2
    ·exact .inl h2
    ·exact .inr ⟨h2.1,Yg h2.2 k.size⟩
   ·exact .inr ⟨Z3 h.size h1.1,h1.2⟩⟩
theorem Grow.zlt {Z Z':Nat→Prop} {w w':World} (h:Grow Z w Z' w') (hz:∀b,Z b→b<w.heap.size):∀b,Z' b→b<w'.heap.size:=fun b hb=>by
 rcases h.znew b hb with h1|h1
 ·exact Yg (hz b h1) h.size
 ·exact h1.2
theorem InvW.grow {Γ:Ctx} {H:List O} {bs:Bs} {Z Z':Nat→Prop} {w w':World} (h:InvW Γ H bs Z w) (g:Grow Z w Z' w'):InvW Γ H bs Z' w' where
 lenH:=h.lenH
 objs i o b ho hb:=(h.objs i o b ho hb).mono (fun _ _ h=>h) g.zs (fun b hz=>g.heap b (h.zlt b hz)) (fun k q hk=>g.heap k (h.lt i k q (hk▸hb)))
 nodup:=h.nodup
 disj i b k hb hz:=by
  rcases g.znew b hz with h1|h1
  ·exact h.disj i b k hb h1
  ·have:=h.lt i b k hb;omega
 lt i b k hb:=Yg (h.lt i b k hb) g.size
 zlt:=g.zlt h.zlt
 z0 b hb:=g.zs b (h.z0 b hb)
 fresh:=h.fresh
 zfresh b hb:=by
  rcases g.znew b hb with h1|h1
  ·exact h.zfresh b h1
  ·exact .inr (.inl (Z3 h.size h1.1))
 size:=Z3 h.size g.size
 frame b hb hn:=(g.heap b (Yg hb h.size)).trans (h.frame b hb hn)
 os:=g.os.trans h.os
 tape:=g.tape.trans h.tape
 output:=g.output.trans h.output
 pin:=h.pin
theorem RV.grow {bs:Bs} {Z Z':Nat→Prop} {w w':World} {v:V} {c:Value} (h:RV bs Z w v c) (hz:∀b,Z b→b<w.heap.size) (g:Grow Z w Z' w'):RV bs Z' w' v c :=
 h.mono (fun _ _ h=>h) g.zs (fun b hb=>g.heap b (hz b hb))
section types
variable {P:Program} {tt:Tab} (hT:Tab.ok P tt) {t:TypeId} {i:TI}
include hT
theorem run_size (h:tt.lookup t=some i) (w:World):(sizeOf t).run P w = .ok i.size w:=by
 obtain ⟨info,z,h1,h2,h3,h4,h5⟩:=(hT t i h).info;simp [sizeOf,typeInfo,h1,h2]
theorem run_isAgg (h:tt.lookup t=some i) (w:World):(isAgg t).run P w = .ok i.agg w:=by
 obtain ⟨d,h1,h2,h3⟩:=(hT t i h).kind;unfold isAgg;simp only [Zy,run_underlying h1,Zm,h3];cases d<;>rfl
theorem run_und (h:tt.lookup t=some i) (w:World):∃d,(underlying t).run P w = .ok d w∧TK.ok P i.kind d∧P.underlying t=some d:=by
 obtain ⟨d,h1,h2,h3⟩:=(hT t i h).kind;exact ⟨d,run_underlying h1 w,h2,h1⟩
theorem run_zero (h:tt.lookup t=some i) (w:World):∃z,(zeroValue t).run P w = .ok z w∧z.cells.toList=i.zero:=by
 obtain ⟨info,z,h1,h2,h3,h4,h5⟩:=(hT t i h).info;exact ⟨z,by simp [zeroValue,typeInfo,h1,h4],h5⟩
theorem run_loadVar (h:tt.lookup t=some i) {w:World} {ad:Addr} {cs:List Value} (hl:cs.length=i.size) (hs:i.agg=false→i.size=1)
 (hc:∀(j:Nat) v,cs[j]? = some v→w.cell? (ad.add j)=some v):(loadVar t ad).run P w = .ok (valOf i.agg cs) w:=by
 unfold loadVar;simp only [Zy,run_isAgg hT h,Zm];cases ha:i.agg with
 | true =>
  simp only [if_true,Zy,run_size hT h,Zm];rw [←hl,run_loadCells_list w ad cs hc];rfl
 | false =>
  have h1:=hs ha;simp only [Zk,if_false]
  match cs,hl with
  | [c],_ =>
   have:=hc 0 c rfl;rw [run_load];simp [Addr.add] at this;simp [this,valOf]
  | [],hl=>simp at hl;omega
  | _::_::_,hl=>simp at hl;omega
end types
def Yields (P:Program) (bs:Bs) (Z:Nat→Prop) (w:World) (o:Oper) (a:Act) (v:V):Prop :=
 ∀(next:Act→World→Prop) (Q:Exit→Act→World→Prop),(∀c w' Z',Grow Z w Z' w'→RV bs Z' w' v c→next (a.put o.dst c) w')→o.wp P a w next Q
theorem Yields.val {P:Program} {bs:Bs} {Z:Nat→Prop} {w:World} {o:Oper} {a:Act} {v:V} {c:Value}
 (h:(execOp a.eval o).run P w = .ok (.value c) w) (hv:RV bs Z w v c):Yields P bs Z w o a v:=by
 intro next Q hn;unfold Oper.wp;rw [h];exact hn c w Z (Grow.refl _ _) hv
section cases
variable {P:Program} {tt:Tab} {bs:Bs} {Z:Nat→Prop} {w:World} {o:Oper} {a:Act} {v:V} {ps:List Prop}
theorem RV.bool {v:Bool} {c:Value} (h:RV bs Z w (vb v) c):c = .bool v:=by
 cases h with|d _ _ h=>cases h;rfl
theorem RV.lit {v:Value} {c:Value} (h:RV bs Z w (.d (.v v)) c):c=v:=by
 cases h with|d _ _ h=>cases h;rfl
theorem RV.mkb (b:Bool):RV bs Z w (vb b) (.bool b) := .d _ _ (.v _ rfl)
theorem RV.mki (k:IntKind) (n:Int):RV bs Z w (.d (.v (.int k n))) (.int k n) := .d _ _ (.v _ rfl)
theorem pick_sound {c x y:Operand} {vc vx vy:V} (ho:o.op = .pick c x y) (hc:RV bs Z w vc (a.eval c)) (hx:RV bs Z w vx (a.eval x)) (hy:RV bs Z w vy (a.eval y))
 (he:evPick vc vx vy=some (v,ps)) (hp:∀p∈ps,p):Yields P bs Z w o a v:=by
 unfold evPick at he;split at he<;>simp at he<;>obtain ⟨rfl,rfl⟩:=he
 ·rename_i b g p q;have e1:=hc.bool;have e3:=hy.bool;have hp':b=true→g=true:=hp _ (by simp);cases hx with|when _ _ _ hx _ =>
  refine Yields.val (c := .bool (cond b p q)) ?_ (RV.mkb _);cases b with
  | true =>
   have e2:=(hx (hp' rfl)).bool;simp [execOp,ho,e1,e2,asBool]
  | false=>simp [execOp,ho,e1,e3,asBool]
 ·rename_i b p g q;have e1:=hc.bool;have e2:=hx.bool;have hp':b=false→g=true:=hp _ (by simp);cases hy with|when _ _ _ hy _ =>
  refine Yields.val (c := .bool (cond b p q)) ?_ (RV.mkb _);cases b with
  | false =>
   have e3:=(hy (hp' rfl)).bool;simp [execOp,ho,e1,e3,asBool]
  | true=>simp [execOp,ho,e1,e2,asBool]
 ·rename_i b p q;have e1:=hc.bool;have e2:=hx.bool;have e3:=hy.bool;refine Yields.val (c := .bool (cond b p q)) ?_ (RV.mkb _);cases b<;>simp [execOp,ho,e1,e2,e3,asBool]
variable (hT:Tab.ok P tt)
theorem okO.rowL {o':O} {xs:List V} {b k:Nat} (h:okO bs Z w o' (some (b,k))) (hr:o'.row=some xs):∃(cs:Array Value) (t:TypeId),w.heap[b]? = some (.cells cs t (0,0))∧xs.length≤cs.size∧cs.size=k ∧
 RVL bs Z w xs (cs.toList.take xs.length):=by
 cases o' with
 | cells ys =>
  simp [O.row] at hr;subst hr;obtain ⟨cs,t,h1,hk,h2,h3⟩:=h;refine ⟨cs,t,h1,by omega,hk,by simp;omega,fun j x c hx hc=>?_⟩;obtain ⟨c',hc',h4,h5⟩:=h3 j x hx;rw [Zr] at hc;split at hc
  ·have e:cs[j]? = some c:=by simpa using hc
   rw [e] at hc';simp at hc';subst hc';exact ⟨h4,h5⟩
  ·simp at hc
 | vec ys ns ts =>
  simp only [O.row,Zf] at hr;subst hr;simp only [okO] at h;generalize vecV ys ns ts=zs at h ⊢;obtain ⟨cs,t,h1,hk,h2,h3⟩:=h;refine ⟨cs,t,h1,by omega,hk,by simp;omega,fun j x c hx hc=>?_⟩;obtain ⟨c',hc',h4,h5⟩:=h3 j x hx;rw [Zr] at hc;split at hc
  ·have e:cs[j]? = some c:=by simpa using hc
   rw [e] at hc';simp at hc';subst hc';exact ⟨h4,h5⟩
  ·simp at hc
 | bld st=>simp [O.row] at hr
 | bldr l=>simp [O.row] at hr
 | data ds =>
  simp [O.row] at hr;subst hr;obtain ⟨cs,t,h1,hk,h2,h3⟩:=h;refine ⟨cs,t,h1,by simp;omega,hk,RDL.toV ⟨by simp;omega,fun j x c hx hc=>?_⟩⟩;obtain ⟨c',hc',h4,h5⟩:=h3 j x hx;rw [Zr] at hc;split at hc
  ·have e:cs[j]? = some c:=by simpa using hc
   rw [e] at hc';simp at hc';subst hc';exact ⟨h4,h5⟩
  ·simp at hc
 | fixed ds =>
  simp [O.row] at hr;subst hr;obtain ⟨cs,t,h1,hk,h2,h3⟩:=h;refine ⟨cs,t,h1,by simp;omega,hk,RDL.toV ⟨by simp;omega,fun j x c hx hc=>?_⟩⟩;obtain ⟨c',hc',h4,h5⟩:=h3 j x hx;rw [Zr] at hc;split at hc
  ·have e:cs[j]? = some c:=by simpa using hc
   rw [e] at hc';simp at hc';subst hc';exact ⟨h4,h5⟩
  ·simp at hc
 | map=>simp [O.row] at hr
 | loop=>simp [O.row] at hr
theorem InvW.row {Γ:Ctx} {H:List O} (hW:InvW Γ H bs Z w) {id:Nat} {xs:List V} (hr:rowAt H id=some xs) {b k:Nat} (hb:bs[id]? = some (some (b,k))) :
 ∃(cs:Array Value) (t:TypeId),w.heap[b]? = some (.cells cs t (0,0))∧xs.length≤cs.size∧cs.size=k∧RVL bs Z w xs (cs.toList.take xs.length):=by
 unfold rowAt at hr;rw [Zi] at hr;obtain ⟨o',ho,hr⟩:=hr;exact (hW.objs id o' _ ho hb).rowL hr
theorem InvW.row0 {Γ:Ctx} {H:List O} (hW:InvW Γ H bs Z w) {id:Nat} {xs:List V} (hr:rowAt H id=some xs) (hb:bs[id]? = some none):xs=[]:=by
 unfold rowAt at hr;rw [Zi] at hr;obtain ⟨o',ho,hr⟩:=hr;have:=hW.objs id o' _ ho hb;cases o'<;>simp [O.row,okO] at hr this
 ·rw [←hr,this]
 ·rw [←hr,this];rfl
 ·rw [←hr,this];rfl
 ·rw [←hr,this.1];simpa [vecV] using this.2
theorem cell_at {b:Nat} {cs:Array Value} {t:TypeId} (h:w.heap[b]? = some (.cells cs t (0,0))) (k j:Nat):w.cell? ((⟨b,k,none⟩:Addr).add j)=cs[k+j]? := by
 unfold Addr.add;split
 ·rename_i e;subst e;simp [World.cell?,h]
 ·simp [World.cell?,h]
include hT
theorem load_sound {Γ:Ctx} {H:List O} (hW:InvW Γ H bs Z w) {t:TypeId} {x:Operand} {i:TI} {h:Hint} {vx:V} (ho:o.op = .load t x) (hx:RV bs Z w vx (a.eval x)) (hi:tt.lookup t=some i)
 (he:evLoad i h H vx=some (v,ps)) (hp:∀p∈ps,p):Yields P bs Z w o a v:=by
 have key:∀(ad:Addr) (cs:List Value),a.eval x = .pointer (some ad)→cs.length=i.size→(i.agg=false→i.size=1)→(∀(j:Nat) v,cs[j]? = some v→w.cell? (ad.add j)=some v) →
  RV bs Z w v (valOf i.agg cs)→Yields P bs Z w o a v:=by
  intro ad cs h1 h2 h3 h4 h5;refine Yields.val (c:=valOf i.agg cs) ?_ h5;simp [execOp,ho,Instr.loadAt,h1,Instr.sureAddr,run_loadVar hT hi h2 h3 h4]
 unfold evLoad at he
 have hsz:∀{vs:List V} {v:V},mkVal i.agg vs=some v→vs.length=i.size→i.agg=false→i.size=1:=by
  intro vs v hm hl ha;unfold mkVal at hm;simp [ha] at hm;split at hm<;>simp at hm;rw [←hl];rfl
 have href:∀{id off:Nat} {xs:List V},vx = .ref id off→rowAt H id=some xs→∀vs,(xs.drop off).take i.size=vs→vs.length=i.size→mkVal i.agg vs=some v →
  Yields P bs Z w o a v:=by
  intro id off xs e hH vs h1 h2 h3;subst e;generalize hc:a.eval x=c at hx;cases hx with|ref _ _ b k hb =>
  obtain ⟨cs,ty,g1,g2,_,g3⟩:=hW.row hH hb;have g4:=(g3.drop off).take i.size;rw [h1] at g4;refine key _ _ hc (by rw [g4.1,h2]) (hsz h3 h2) (fun j u hu=>?_) (RV.mkVal g4 h3);rw [cell_at g1];simp only [Zr,ZK] at hu;split at hu
  ·split at hu
   ·simpa using hu
   ·simp at hu
  ·simp at hu
 have hrop:∀{cells:List D},vx = .rop cells→∀(ds:List D) (y:D),cells.take i.size=ds→ds.length=i.size→mkD i.agg ds=some y→v = .d y→Yields P bs Z w o a v:=by
  intro cells e ds y h1 h2 h3 h4;subst e;subst h4;generalize hc:a.eval x=c at hx;cases hx with|rop _ ad f hz hcell h1' hr =>
  have hdl:i.size≤cells.length:=by rw [←h1] at h2;simp at h2;omega
  have hR:RDL Z w ds ((List.range i.size).map f):=by
   refine ⟨by simp [h2],fun j x c hx hc=>?_⟩;have hj:j<i.size:=by rw [←h2];exact (Zb.1 hx).1
   simp [hj] at hc;subst hc;rw [←h1,Zr,if_pos hj] at hx;exact ⟨h1' j (by omega),hr j x hx⟩
  refine key ad _ hc (by simp) (fun ha=>?_) (fun j u hu=>?_) (.d _ _ (RD.mkD hR h3))
  ·unfold mkD at h3;simp [ha] at h3;split at h3<;>simp at h3;rw [←h2];rfl
  ·have hj:j<i.size:=by
    have:=(Zb.1 hu).1;simpa using this
   simp [hj] at hu;subst hu;exact hcell j (by omega)
 split at he
 ·split at he
  ·rename_i hH;simp only [Zc,Ze] at he;obtain ⟨v',hm,rfl,rfl⟩:=he;have hl:=hp _ (Zq.2 rfl);exact href rfl hH _ hl.1 hl.2 hm
  ·rename_i ds hH;simp only [Zc,Ze] at he;obtain ⟨x',hm,rfl,rfl⟩:=he;have hl:=hp _ (Zq.2 rfl);refine href rfl hH _ hl.1 hl.2 ?_
   have hall:∀ds:List D,allD (ds.map .d)=some ds:=by
    intro ds;induction ds with
    | nil=>rfl
    | cons d ds ih=>simp [allD,ih]
   unfold mkD at hm;unfold mkVal;split at hm
   ·rename_i ha;simp only [Zf] at hm;subst hm;rw [if_pos ha];simp only [mkAgg,hall]
   ·rename_i ha;rw [if_neg ha];split at hm
    ·simp only [Zf] at hm;subst hm;rfl
    ·simp at hm
  ·rename_i hH _ _;simp only [Zc,Zi,Ze] at he;obtain ⟨v',⟨vs,hs,hm⟩,rfl,rfl⟩:=he;have:=takeN_eq hs;exact href rfl hH vs this.1 this.2 hm
  ·simp at he
 ·split at he
  ·rename_i ds;simp only [Zc,Ze] at he;obtain ⟨x',h2,rfl,rfl⟩:=he;have hl:=hp _ (Zq.2 rfl);exact hrop rfl ds x' hl.1 hl.2 h2 rfl
  ·simp only [Zc,Zi,Ze] at he;obtain ⟨x',⟨ds,h1,h2⟩,rfl,rfl⟩:=he;have:=takeN_eq h1;exact hrop rfl ds x' this.1 this.2 h2 rfl
 ·simp at he
end cases
end Go.Sx
end
section
namespace Go.Sx
open Go
section cases
variable {P:Program} {tt:Tab} {bs:Bs} {Z:Nat→Prop} {w:World} {o:Oper} {a:Act} {v:V} {ps:List Prop}
theorem addr_add (b k n:Nat):((⟨b,k,none⟩:Addr).add n)=⟨b,k+n,none⟩:=by
 unfold Addr.add;split<;>simp_all
theorem RV.rop_drop {cells:List D} {ad:Addr} (h:RV bs Z w (.rop cells) (.pointer (some ad))) (n:Nat):RV bs Z w (.rop (cells.drop n)) (.pointer (some (ad.add n))):=by
 cases h with|rop _ _ f hz hc h1 hr =>
 refine .rop _ _ (fun j=>f (n+j)) (by rw [add_block];exact hz) (fun j hj=>?_) (fun j hj=>?_) (fun j x hx=>?_)
 ·simp at hj;rw [add_add];exact hc _ (by omega)
 ·simp at hj;exact h1 _ (by omega)
 ·rw [ZK] at hx;exact hr _ x hx
theorem RV.rop_take {cells:List D} {ad:Addr} (h:RV bs Z w (.rop cells) (.pointer (some ad))) (n:Nat):RV bs Z w (.rop (cells.take n)) (.pointer (some ad)):=by
 cases h with|rop _ _ f hz hc h1 hr =>
 refine .rop _ _ f hz (fun j hj=>?_) (fun j hj=>?_) (fun j x hx=>?_)
 ·simp at hj;exact hc _ (by omega)
 ·simp at hj;exact h1 _ (by omega)
 ·rw [Zr] at hx;split at hx
  ·exact hr _ x hx
  ·simp at hx
theorem RD.asRop {t:Bool} {e n:Nat} {cells:List D} {c:Value} (h:RD Z w (.list t e n cells) c) (hn:0<n):∃ad cap,c = .slice (some ad) n cap∧n≤cap∧(t=true→cap=n)∧cells.length=n*e∧RV bs Z w (.rop cells) (.pointer (some ad)):=by
 cases h with
 | list0=>omega
 | list _ _ _ _ ad cap f hn hl hz hcap ht hc h1 hr=>exact ⟨ad,cap,rfl,hcap,ht,hl,.rop cells ad f hz hc h1 hr⟩
theorem move_sound {x:Operand} {vx:V} (ho:o.op = .move x∨o.op = .assign x) (hx:RV bs Z w vx (a.eval x)):Yields P bs Z w o a vx:=by
 rcases ho with ho|ho<;>exact Yields.val (by simp [execOp,ho]) hx
theorem nilCheck_ref {x:Operand} {id off:Nat} (ho:o.op = .nilCheck x) (hx:RV bs Z w (.ref id off) (a.eval x)):Yields P bs Z w o a (.ref id off):=by
 generalize hc:a.eval x=c at hx;cases hx with|ref _ _ b k hb=>exact Yields.val (by simp [execOp,ho,hc]) (.ref _ _ b k hb)
theorem nilCheck_ptr {x:Operand} {cells:List D} (ho:o.op = .nilCheck x) (hx:RV bs Z w (.d (.optr true cells)) (a.eval x)):Yields P bs Z w o a (.rop cells):=by
 generalize hc:a.eval x=c at hx;cases hx with|d _ _ h =>
 cases h with|optr _ ad f hz hcell h1 hr=>exact Yields.val (by simp [execOp,ho,hc]) (.rop cells ad f hz hcell h1 hr)
theorem nilCheck_rop {x:Operand} {cells:List D} (ho:o.op = .nilCheck x) (hx:RV bs Z w (.rop cells) (a.eval x)):Yields P bs Z w o a (.rop cells):=by
 generalize hc:a.eval x=c at hx;cases hx with|rop _ ad f hz hcell h1 hr=>exact Yields.val (by simp [execOp,ho,hc]) (.rop cells ad f hz hcell h1 hr)
theorem extract_sound {t:Operand} {k:Nat} {vs:List V} (ho:o.op = .extract t k) (hx:RV bs Z w (.tup vs) (a.eval t)) (hk:vs[k]? = some v):Yields P bs Z w o a v:=by
 generalize hc:a.eval t=c at hx;cases hx with|tup _ cs f hl hf hr =>
 have hk':k<cs.size:=by rw [hl];exact (Zb.1 hk).1
 refine Yields.val (c:=f k) ?_ (hr k v hk);have:=hf k hk';simp [execOp,ho,hc,Instr.extract,this]
theorem map_get {get:Operand→V} {xs:Array Operand} (h:∀x∈xs,RV bs Z w (get x) (a.eval x)):∀(j:Nat) v,(xs.toList.map get)[j]? = some v→∃c,(xs.map a.eval)[j]? = some c∧RV bs Z w v c:=by
 intro j v hv;rw [Zj] at hv;cases hx:xs.toList[j]? with
 | none=>simp [hx] at hv
 | some x =>
  simp [hx] at hv;subst hv
  have hm:x∈xs:=by
   have:=ZG hx;simpa using this
  refine ⟨a.eval x,?_,h x hm⟩;have:xs[j]? = some x:=by simpa using hx
  simp [this]
theorem makeFunc_sound {g:Fn} {first captured:Array Operand} {get:Operand→V} (ho:o.op = .makeFunc g first captured)
 (h1:∀x∈first,RV bs Z w (get x) (a.eval x)) (h2:∀x∈captured,RV bs Z w (get x) (a.eval x)) :
 Yields P bs Z w o a (.fn g (first.toList.map get) (captured.toList.map get)):=by
 refine Yields.val (c := .func g (first.map a.eval) (captured.map a.eval)) (by simp [execOp,ho,Instr.makeFunc]) ?_;refine .fn g _ _ _ _ (fun j=>(first.map a.eval).getD j undef) (fun j=>(captured.map a.eval).getD j undef) (by simp) (by simp) (fun j hj=>?_) (fun j hj=>?_) (fun j x hx=>?_) (fun j x hx=>?_)
 ·simp at hj;simp [Array.getD,hj]
 ·simp at hj;simp [Array.getD,hj]
 ·obtain ⟨c,hc,hr⟩:=map_get h1 j x hx;rw [Zu,hc];exact hr
 ·obtain ⟨c,hc,hr⟩:=map_get h2 j x hx;rw [Zu,hc];exact hr
theorem same_eq {k k':IntKind} (h:IntKind.same k k'=true):k=k':=by cases k<;>cases k'<;>simp [IntKind.same] at h<;>rfl
theorem bin_sound {op:BinOp} {t u:TypeId} {x y:Operand} {vx vy:V} (ho:o.op = .binOp op t x y u) (hx:RV bs Z w vx (a.eval x)) (hy:RV bs Z w vy (a.eval y))
 (he:evBin op vx vy=some (v,ps)) (hp:∀p∈ps,p):Yields P bs Z w o a v:=by
 unfold evBin at he;split at he
 ·rename_i k m k' n;split at he
  ·rename_i q hq;simp only [Zf] at he;subst he;have e1:=hx.lit;have e2:=hy.lit;cases op<;>simp only [evShift,Zf,Ze,reduceCtorEq] at hq<;>obtain ⟨rfl,rfl⟩:=hq
   ·exact Yields.val (by simp [execOp,ho,e1,e2,eqGuard,binOp,shift_shl_any _ _ _ _ (show 0≤n from hp _ (by simp))]) (RV.mki _ _)
   ·exact Yields.val (by simp [execOp,ho,e1,e2,eqGuard,binOp,shift_shr_any _ _ _ _ (show 0≤n from hp _ (by simp))]) (RV.mki _ _)
  split at he
  ·rename_i hs;have:=same_eq hs;subst this;have e1:=hx.lit;have e2:=hy.lit;cases op<;>simp only [binInt,Zf,Ze,reduceCtorEq] at he<;>obtain ⟨rfl,rfl⟩:=he
   case quo=>exact Yields.val (by simp [execOp,ho,e1,e2,eqGuard,binOp,Op.intDiv,show n≠0 from hp _ (by simp)]) (RV.mki _ _)
   case rem=>exact Yields.val (by simp [execOp,ho,e1,e2,eqGuard,binOp,Op.intDiv,show n≠0 from hp _ (by simp)]) (RV.mki _ _)
   case and=>exact Yields.val (by simp [execOp,ho,e1,e2,eqGuard,binOp];rw [intBits_and];rfl) (RV.mki _ _)
   case or=>exact Yields.val (by simp [execOp,ho,e1,e2,eqGuard,binOp];rw [intBits_or];rfl) (RV.mki _ _)
   case xor=>exact Yields.val (by simp [execOp,ho,e1,e2,eqGuard,binOp];rw [intBits_xor];rfl) (RV.mki _ _)
   all_goals first
    | exact Yields.val (by simp [execOp,ho,e1,e2,eqGuard,binOp,Op.intArith]) (RV.mki _ _)
    | exact Yields.val (by simp [execOp,ho,e1,e2,eqGuard,binOp,Op.intCmp]) (RV.mkb _)
  ·simp at he
 ·rename_i m n;split at he
  ·simp only [Zf,Ze] at he;obtain ⟨rfl,rfl⟩:=he;have hle:m.size+n.size≤9223372036854775807:=hp _ (by simp);have e1:=hx.lit;have e2:=hy.lit;have hno:¬(((m.size+n.size:Nat):Int)>IntKind.i64.max):=by rw [show IntKind.i64.max=9223372036854775807 by decide];omega
   exact Yields.val (c := .string (m++n)) (by simp only [execOp,ho,e1,e2];simp [eqGuard,binOp,Op.stringOp];omega) (.d _ _ (.v _ rfl))
  ·simp at he
 ·simp at he
theorem un_sound {op:UnOp} {t:TypeId} {x:Operand} {vx:V} (ho:o.op = .unOp op t x) (hx:RV bs Z w vx (a.eval x)) (he:evUn op vx=some (v,ps)):Yields P bs Z w o a v:=by
 unfold evUn at he;split at he
 ·have e1:=hx.lit;cases op<;>simp at he;obtain ⟨rfl,rfl⟩:=he;exact Yields.val (by simp [execOp,ho,e1,Op.unary]) (RV.mkb _)
 ·have e1:=hx.lit;cases op<;>simp at he;obtain ⟨rfl,rfl⟩:=he;exact Yields.val (by simp [execOp,ho,e1,Op.unary,Op.intArith]) (RV.mki _ _)
 ·simp at he
theorem max_go {get:Operand→V} (k:IntKind):∀(xs:List Operand) (x:Int),(∀y∈xs,RV bs Z w (get y) (a.eval y))→maxI k x (xs.map get)=some v →
 ∃n,v = .d (.v (.int k n))∧((xs.map a.eval).foldlM Builtin.max2 (.int k x)).run P w = .ok (.int k n) w:=by
 intro xs;induction xs with
 | nil=>intro x _ h;simp [maxI] at h;exact ⟨x,h.symm,by simp⟩
 | cons y ys ih =>
  intro x hx h;have h0:=hx y (by simp);rw [ZW] at h;generalize get y=g at h h0;unfold maxI at h;split at h
  ·rename_i heq;simp at heq
  rotate_left
  ·simp at h
  rename_i heq;simp only [List.cons.injEq] at heq;obtain ⟨rfl,rfl⟩:=heq;have e:=h0.lit;obtain ⟨n,hn,hr⟩:=ih _ (fun y hy=>hx y (by simp [hy])) h;refine ⟨n,hn,?_⟩;simp only [ZW,List.foldlM_cons,Zy,e,Builtin.max2,ZJ,Zm];exact hr
theorem min_go {get:Operand→V} (k:IntKind):∀(xs:List Operand) (x:Int),(∀y∈xs,RV bs Z w (get y) (a.eval y))→minI k x (xs.map get)=some v →
 ∃n,v = .d (.v (.int k n))∧((xs.map a.eval).foldlM Builtin.min2 (.int k x)).run P w = .ok (.int k n) w:=by
 intro xs;induction xs with
 | nil=>intro x _ h;simp [minI] at h;exact ⟨x,h.symm,by simp⟩
 | cons y ys ih =>
  intro x hx h;have h0:=hx y (by simp);rw [ZW] at h;generalize get y=g at h h0;unfold minI at h;split at h
  ·rename_i heq;simp at heq
  rotate_left
  ·simp at h
  rename_i heq;simp only [List.cons.injEq] at heq;obtain ⟨rfl,rfl⟩:=heq;have e:=h0.lit;obtain ⟨n,hn,hr⟩:=ih _ (fun y hy=>hx y (by simp [hy])) h;refine ⟨n,hn,?_⟩;simp only [ZW,List.foldlM_cons,Zy,e,Builtin.min2,ZJ,Zm];exact hr
theorem max_sound {c:Call} {get:Operand→V} {k:IntKind} {x:Int} {vs:List V} (ho:o.op = .call c) (hc:c.callee = .builtin .max) (hx:∀y∈c.args,RV bs Z w (get y) (a.eval y))
 (hm:c.args.toList.map get = .d (.v (.int k x))::vs) (he:maxI k x vs=some v):Yields P bs Z w o a v:=by
 obtain ⟨callee,⟨args⟩,tys⟩:=c;cases args with
 | nil=>simp at hm
 | cons y ys =>
  simp at hm hc hx;obtain ⟨hm1,hm2⟩:=hm;have h0:=hx.1;rw [hm1] at h0;have e:=h0.lit;rw [←hm2] at he;obtain ⟨n,hn,hr⟩:=max_go (P:=P) (a:=a) (w:=w) (bs:=bs) (Z:=Z) k ys x hx.2 he;subst hn;refine Yields.val (c := .int k n) ?_ (RV.mki _ _);simp [execOp,ho,resolve,hc,invoke,builtin,Builtin.max_,e,hr]
theorem min_sound {c:Call} {get:Operand→V} {k:IntKind} {x:Int} {vs:List V} (ho:o.op = .call c) (hc:c.callee = .builtin .min) (hx:∀y∈c.args,RV bs Z w (get y) (a.eval y))
 (hm:c.args.toList.map get = .d (.v (.int k x))::vs) (he:minI k x vs=some v):Yields P bs Z w o a v:=by
 obtain ⟨callee,⟨args⟩,tys⟩:=c;cases args with
 | nil=>simp at hm
 | cons y ys =>
  simp at hm hc hx;obtain ⟨hm1,hm2⟩:=hm;have h0:=hx.1;rw [hm1] at h0;have e:=h0.lit;rw [←hm2] at he;obtain ⟨n,hn,hr⟩:=min_go (P:=P) (a:=a) (w:=w) (bs:=bs) (Z:=Z) k ys x hx.2 he;subst hn;refine Yields.val (c := .int k n) ?_ (RV.mki _ _);simp [execOp,ho,resolve,hc,invoke,builtin,Builtin.min_,e,hr]
variable (hT:Tab.ok P tt)
include hT
theorem nilcmp_sound {op:BinOp} {t u:TypeId} {x y:Operand} {vx vy:V} {b:Bool} (ho:o.op = .binOp op t x y u) (hx:RV bs Z w vx (a.eval x)) (hy:RV bs Z w vy (a.eval y))
 (he:evNil tt op t b vx vy=some (v,ps)) (hp:∀p∈ps,p):Yields P bs Z w o a v:=by
 unfold evNil at he;split at he
 ·rename_i d
  have key:∀e,(tt.lookup t).map TI.kind=some (.slice e)→NilIs d b→∃ad l c,a.eval x = .slice ad l c∧ad.isNone=b∧P.underlying t=some (.slice e):=by
   intro e hk hn;rw [Zc] at hk;obtain ⟨i,hi,hk⟩:=hk;obtain ⟨dd,h1,h2,h3⟩:=(hT t i hi).kind;rw [hk] at h2;simp only [TK.ok] at h2;subst h2;rcases hn with ⟨rfl,rfl⟩|⟨rfl,tg,ee,n,cells,h0,rfl⟩|⟨ee,n,cells,rfl,rfl⟩
   rotate_left 2
   ·generalize hc:a.eval x=c at hx;cases hx with|d _ _ h =>
    cases h with
    | nl0=>exact ⟨none,0,0,rfl,rfl,h1⟩
    | nl _ _ _ _ h0 h =>
     obtain ⟨ad,cap,rfl,_⟩:=RD.asRop (bs:=bs) h h0;exact ⟨some ad,n,cap,rfl,by cases n with|zero=>exact absurd h0 (by simp)|succ n=>rfl,h1⟩
   ·exact ⟨none,0,0,hx.lit,rfl,h1⟩
   ·generalize hc:a.eval x=c at hx;cases hx with|d _ _ h =>
    obtain ⟨ad,cap,rfl,_⟩:=RD.asRop (bs:=bs) h h0;exact ⟨some ad,n,cap,rfl,rfl,h1⟩
  have e2:=hy.lit;split at he
  ·rename_i e hk;simp only [Zf,Ze] at he;obtain ⟨rfl,rfl⟩:=he;obtain ⟨ad,l,c,h1,h2,h3⟩:=key e hk (hp _ (by simp));refine Yields.val (c := .bool b) ?_ (RV.mkb _);have:=run_equal_slice_nil w t e ad l c h3;simp [execOp,ho,h1,e2,eqGuard,binOp,this,h2]
  ·rename_i e hk;simp only [Zf,Ze] at he;obtain ⟨rfl,rfl⟩:=he;obtain ⟨ad,l,c,h1,h2,h3⟩:=key e hk (hp _ (by simp));refine Yields.val (c := .bool (!b)) ?_ (RV.mkb _);have:=run_equal_slice_nil w t e ad l c h3;simp [execOp,ho,h1,e2,eqGuard,binOp,this,h2]
  ·simp at he
 ·simp at he
theorem struct_field {t:TypeId} {i:TI} {fs:List (Nat×Nat×Bool)} {f:Nat} {p:Nat×Nat×Bool} (hi:tt.lookup t=some i) (hk:i.kind = .struct fs) (hf:fs[f]? = some p) :
 ∃fields fl,(∀w,(underlying t).run P w = .ok (.struct fields) w)∧fields[f]? = some fl∧fl.offset=p.1∧(∀w,(sizeOf fl.type).run P w = .ok p.2.1 w)∧0<p.2.1 ∧
  (∀w,(isAgg fl.type).run P w = .ok p.2.2 w):=by
 obtain ⟨d,h1,h2,h3⟩:=(hT t i hi).kind;rw [hk] at h2;obtain ⟨fields,rfl,hl,hall⟩:=h2;have hlt:f<fields.size:=by rw [←hl];exact (Zb.1 hf).1
 obtain ⟨inf,u,g1,g2,g3,g4⟩:=hall f fields[f] (by simp [hlt]);rw [hf] at g3;simp only [Zf] at g3;subst g3;refine ⟨fields,fields[f],fun w=>run_underlying h1 w,by simp [hlt],rfl,fun w=>by simp [sizeOf,typeInfo,g1],g4,fun w=>?_⟩;unfold isAgg;simp only [Zy,run_underlying g2,Zm];cases u<;>rfl
theorem fieldAddr_sound {s:TypeId} {x:Operand} {f:Nat} {i:TI} {vx:V} (ho:o.op = .fieldAddr s x f) (hx:RV bs Z w vx (a.eval x)) (hi:tt.lookup s=some i)
 (he:evFieldAddr i f vx=some (v,ps)):Yields P bs Z w o a v:=by
 generalize hc:a.eval x=c at hx
 have key:∀(ad:Addr) (fs:List (Nat×Nat×Bool)) (p:Nat×Nat×Bool),c = .pointer (some ad)→i.kind = .struct fs→fs[f]? = some p →
  (execOp a.eval o).run P w = .ok (.value (.pointer (some (ad.add p.1)))) w:=by
  intro ad fs p h1 h2 h3;obtain ⟨fields,fl,g1,g2,g3,g4,g5,g6⟩:=struct_field hT hi h2 h3;have hn:p.2.1≠0:=by omega
  simp [execOp,ho,Instr.fieldAt,g1,g2,hc,h1,Instr.sureAddr,fieldPlace,g4,hn,g3]
 unfold evFieldAddr at he;split at he
 ·split at he
  ·rename_i id off fs hk;simp only [Zc,Ze] at he;obtain ⟨p,hp,rfl,rfl⟩:=he;cases hx with|ref _ _ b k hb =>
   refine Yields.val (key _ _ p rfl hk hp) ?_;rw [addr_add];exact .ref _ _ b k hb
  ·simp at he
 ·split at he
  ·rename_i hk;simp only [Zc,Ze] at he;obtain ⟨p,hp,rfl,rfl⟩:=he;cases hx with|rop _ ad g hz hcell h1 hr =>
   exact Yields.val (key ad _ p rfl hk hp) (RV.rop_drop (.rop _ ad g hz hcell h1 hr) _)
  ·simp at he
 ·simp at he
end cases
end Go.Sx
end
section
namespace Go.Sx
open Go
section cases
variable {P:Program} {tt:Tab} {bs:Bs} {Z:Nat→Prop} {w:World} {o:Oper} {a:Act} {v:V} {ps:List Prop}
theorem RD.aggL {ds:List D} {c:Value} (h:RD Z w (.agg ds) c):∃cs:Array Value,c = .agg cs∧RDL Z w ds cs.toList:=by
 cases h with
 | agg _ cs f hl hf h1 hr =>
  refine ⟨cs,rfl,by simpa using hl,fun j x c hx hc=>?_⟩;have hj:j<ds.length:=(Zb.1 hx).1;have:=hf j (by omega);simp at hc;rw [hc] at this;simp at this;subst this;exact ⟨h1 j hj,hr j x hx⟩
theorem RV.aggL {vs:List V} {c:Value} (h:RV bs Z w (.agg vs) c):∃cs:Array Value,c = .agg cs∧RVL bs Z w vs cs.toList:=by
 cases h with
 | agg _ cs f hl hf h1 hr =>
  refine ⟨cs,rfl,by simpa using hl,fun j x c hx hc=>?_⟩;have hj:j<vs.length:=(Zb.1 hx).1;have:=hf j (by omega);simp at hc;rw [hc] at this;simp at this;subst this;exact ⟨h1 j hj,hr j x hx⟩
theorem RDL.take {vs:List D} {cs:List Value} (h:RDL Z w vs cs) (n:Nat):RDL Z w (vs.take n) (cs.take n):=by
 have:=(RVL.take (RDL.toV (bs:=[]) h) n)
 rw [←YG] at this;exact this.toD
theorem RDL.drop {vs:List D} {cs:List Value} (h:RDL Z w vs cs) (n:Nat):RDL Z w (vs.drop n) (cs.drop n):=by
 have:=(RVL.drop (RDL.toV (bs:=[]) h) n)
 rw [←List.map_drop] at this;exact this.toD
theorem run_part {t:TypeId} {s:Nat} {g:Bool} {cs:Array Value} {off:Nat} {ys:List Value} (h1:(isAgg t).run P w = .ok g w) (h2:(sizeOf t).run P w = .ok s w)
 (hy:(cs.toList.drop off).take s=ys) (hl:ys.length=s) (hs:g=false→s=1):(part t cs off).run P w = .ok (valOf g ys) w:=by
 unfold part;simp only [Zy,h1,Zm];cases g with
 | true =>
  simp only [if_true,Zy,h2,Zm,ZJ,valOf];congr 2;apply Array.ext';rw [←hy];rw [Array.toList_extract,List.extract_eq_take_drop];congr 1;omega
 | false =>
  have:=hs rfl;subst this;simp only [Zk,if_false]
  match ys,hl with
  | [c],_ =>
   have:cs[off]? = some c:=by
    have:((cs.toList.drop off).take 1)[0]? = some c:=by rw [hy];rfl
    simpa [Zr,ZK] using this
   simp [this,valOf]
theorem mkVal_one {g:Bool} {vs:List V} (h:mkVal g vs=some v) {s:Nat} (hl:vs.length=s):g=false→s=1:=by
 intro hg;subst hg;simp [mkVal] at h;split at h<;>simp at h;simpa using hl.symm
theorem mkD_one {g:Bool} {vs:List D} {x:D} (h:mkD g vs=some x) {s:Nat} (hl:vs.length=s):g=false→s=1:=by
 intro hg;subst hg;simp [mkD] at h;split at h<;>simp at h;simpa using hl.symm
variable (hT:Tab.ok P tt)
include hT
theorem field_sound {s:TypeId} {x:Operand} {f:Nat} {i:TI} {vx:V} (ho:o.op = .field s x f) (hx:RV bs Z w vx (a.eval x)) (hi:tt.lookup s=some i)
 (he:evField i f vx=some (v,ps)):Yields P bs Z w o a v:=by
 unfold evField at he;split at he
 ·rename_i ds;cases hx with|d _ _ hx =>
  obtain ⟨cs,hc,hR⟩:=hx.aggL;split at he
  ·rename_i fs hk;simp only [Zc,Zi,Ze] at he;obtain ⟨p,hp,y,⟨es,h1,h2⟩,rfl,rfl⟩:=he;obtain ⟨fields,fl,g1,g2,g3,g4,g5,g6⟩:=struct_field hT hi hk hp;have ht:=takeN_eq h1;have hR':=(hR.drop p.1).take p.2.1;rw [ht.1] at hR';refine Yields.val (c:=valOf p.2.2 ((cs.toList.drop p.1).take p.2.1)) ?_ (.d _ _ (RD.mkD hR' h2));have:=run_part (P:=P) (w:=w) (cs:=cs) (off:=p.1) (g6 w) (g4 w) rfl (by rw [hR'.1,ht.2]) (mkD_one h2 ht.2);simp [execOp,ho,Instr.field,g1,g2,hc,asAgg,g3,this]
  ·simp at he
 ·rename_i us;obtain ⟨cs,hc,hR⟩:=hx.aggL;split at he
  ·rename_i fs hk;simp only [Zc,Zi,Ze] at he;obtain ⟨p,hp,y,⟨es,h1,h2⟩,rfl,rfl⟩:=he;obtain ⟨fields,fl,g1,g2,g3,g4,g5,g6⟩:=struct_field hT hi hk hp;have ht:=takeN_eq h1;have hR':=(hR.drop p.1).take p.2.1;rw [ht.1] at hR';refine Yields.val (c:=valOf p.2.2 ((cs.toList.drop p.1).take p.2.1)) ?_ (RV.mkVal hR' h2);have:=run_part (P:=P) (w:=w) (cs:=cs) (off:=p.1) (g6 w) (g4 w) rfl (by rw [hR'.1,ht.2]) (mkVal_one h2 ht.2);simp [execOp,ho,Instr.field,g1,g2,hc,asAgg,g3,this]
  ·simp at he
 ·simp at he
theorem kind_slice {t e:TypeId} {i:TI} (hi:tt.lookup t=some i) (hk:i.kind = .slice e) (w:World):(underlying t).run P w = .ok (.slice e) w:=by
 obtain ⟨d,h1,h2,h3⟩:=(hT t i hi).kind;rw [hk] at h2;cases h2;exact run_underlying h1 w
theorem kind_array {t e n:TypeId} {i:TI} (hi:tt.lookup t=some i) (hk:i.kind = .array n e) (w:World):(underlying t).run P w = .ok (.array n e) w:=by
 obtain ⟨d,h1,h2,h3⟩:=(hT t i hi).kind;rw [hk] at h2;cases h2;exact run_underlying h1 w
theorem kind_int {t:TypeId} {k:IntKind} {i:TI} (hi:tt.lookup t=some i) (hk:i.kind = .int k) (w:World):(underlying t).run P w = .ok (.int k) w:=by
 obtain ⟨d,h1,h2,h3⟩:=(hT t i hi).kind;rw [hk] at h2;cases h2;exact run_underlying h1 w
theorem indexAddr_sound {t:TypeId} {x y:Operand} {i:TI} {h:Hint} {vx vy:V} (ho:o.op = .indexAddr t x y) (hx:RV bs Z w vx (a.eval x)) (hy:RV bs Z w vy (a.eval y)) (hi:tt.lookup t=some i)
 (he:evIndexAddr tt i h vx vy=some (v,ps)) (hp:∀p∈ps,p):Yields P bs Z w o a v:=by
 generalize hc:a.eval x=c at hx;generalize hd:a.eval y=d at hy;unfold evIndexAddr at he;split at he
 ·
  rename_i tight e n cells k q;have ey:=hy.lit;subst ey;cases hx with|d _ _ hx =>
  split at he
  ·rename_i u ec hk;simp only [Zi] at he;obtain ⟨it,h1,h2⟩:=he;split at h2
   ·rename_i hsz;simp at hsz;simp only [Zf,Ze] at h2;obtain ⟨rfl,rfl⟩:=h2;obtain ⟨k0,kn,kt,kl⟩:=hp _ (Zq.2 rfl);have hn:0<n:=by omega
    obtain ⟨ad,cap,rfl,hcap,_,hl,hrop⟩:=hx.asRop (bs:=bs) hn;have hr2:=(RV.rop_drop hrop (q.toNat*e)).rop_take e;rw [kt] at hr2;refine Yields.val ?_ hr2;simp [execOp,ho,Instr.indexAt,hc,hd,asIntOf,kind_slice hT hi hk,run_size hT h1,hsz,k0,kn]
   ·simp at h2
  ·simp at he
 ·rename_i e id off n k q;have ey:=hy.lit;subst ey;split at he
  ·rename_i u hk;simp only [Zi] at he;obtain ⟨it,h1,h2⟩:=he;split at h2
   ·simp only [Zf,Ze] at h2;obtain ⟨rfl,rfl⟩:=h2;obtain ⟨k0,kn⟩:=hp _ (Zq.2 rfl);cases hx with
    | sl0=>simp at kn;omega
    | sl _ _ _ _ b k cap hb hcap =>
     refine Yields.val (c := .pointer (some ⟨b,off+q.toNat*it.size,none⟩)) ?_ (.ref _ _ b k hb);simp [execOp,ho,Instr.indexAt,hc,hd,asIntOf,kind_slice hT hi hk,run_size hT h1,k0,kn,addr_add]
   ·simp at h2
  ·simp at he
 ·rename_i id off k q;have ey:=hy.lit;subst ey;split at he
  ·rename_i n u hk;simp only [Zc,Ze] at he;obtain ⟨it,h1,rfl,rfl⟩:=he;obtain ⟨k0,kn⟩:=hp _ (Zq.2 rfl);cases hx with|ref _ _ b kk hb =>
   refine Yields.val (c := .pointer (some ⟨b,off+q.toNat*it.size,none⟩)) ?_ (.ref _ _ b kk hb);simp [execOp,ho,Instr.indexAt,hc,hd,asIntOf,kind_array hT hi hk,run_size hT h1,k0,kn,addr_add,Instr.sureAddr]
  ·simp at he
 ·rename_i cells k q;have ey:=hy.lit;subst ey;split at he
  ·rename_i n u ec hk;simp only [Zc,Ze] at he;obtain ⟨it,h1,rfl,rfl⟩:=he;obtain ⟨k0,kn,kt,kl⟩:=hp _ (Zq.2 rfl);cases hx with|rop _ ad g hz hcell h1' hr =>
   have hr2:=(RV.rop_drop (.rop cells ad g hz hcell h1' hr:RV bs Z w _ _) (q.toNat*it.size)).rop_take it.size;rw [kt] at hr2;refine Yields.val ?_ hr2;simp [execOp,ho,Instr.indexAt,hc,hd,asIntOf,kind_array hT hi hk,run_size hT h1,k0,kn,Instr.sureAddr]
  ·simp at he
 ·
  rename_i e n cells k q;have ey:=hy.lit;subst ey;cases hx with|d _ _ hx =>
  split at he
  ·rename_i u ec hk;simp only [Zi] at he;obtain ⟨it,h1,h2⟩:=he;split at h2
   ·rename_i hsz;simp at hsz;simp only [Zf,Ze] at h2;obtain ⟨rfl,rfl⟩:=h2;obtain ⟨k0,kn,kt,kl⟩:=hp _ (Zq.2 rfl);have hn:0<n:=by omega
    cases hx with
    | nl0=>omega
    | nl _ _ _ _ hn' hx =>
     obtain ⟨ad,cap,rfl,hcap,_,hl,hrop⟩:=hx.asRop (bs:=bs) hn;have hr2:=(RV.rop_drop hrop (q.toNat*e)).rop_take e;rw [kt] at hr2;refine Yields.val ?_ hr2;simp [execOp,ho,Instr.indexAt,hc,hd,asIntOf,kind_slice hT hi hk,run_size hT h1,hsz,k0,kn]
   ·simp at h2
  ·simp at he
 ·simp at he
theorem index_sound {t:TypeId} {x y:Operand} {i:TI} {h:Hint} {vx vy:V} (ho:o.op = .index t x y) (hx:RV bs Z w vx (a.eval x)) (hy:RV bs Z w vy (a.eval y)) (hi:tt.lookup t=some i)
 (he:evIndex tt i h vx vy=some (v,ps)) (hp:∀p∈ps,p):Yields P bs Z w o a v:=by
 generalize hc:a.eval x=c at hx;generalize hd:a.eval y=d at hy;unfold evIndex at he;split at he
 ·rename_i q _ k;have ex:=hx.lit;have ey:=hy.lit;subst ex ey;split at he
  ·rename_i cc hk;simp only [Zf,Ze] at he;obtain ⟨rfl,rfl⟩:=he;obtain ⟨k0,k1⟩:=hp _ (Zq.2 rfl);obtain ⟨b,hb,hbc⟩:=Zc.1 k1;obtain ⟨d,h1,h2,_⟩:=run_und hT hi w;rw [hk] at h2;have h3:d = .string:=h2;subst h3;refine Yields.val ?_ (RV.mki _ _);rw [←hbc];simp [execOp,ho,Instr.index,hc,hd,asIntOf,h1,k0,hb]
  ·simp at he
 ·rename_i cells k q;have ey:=hy.lit;subst ey;cases hx with|d _ _ hx =>
  obtain ⟨cs,rfl,hR⟩:=hx.aggL;split at he
  ·rename_i n u ec hk;simp only [Zc,Zi,Ze] at he;obtain ⟨it,h1,y,h2,rfl,rfl⟩:=he;obtain ⟨k0,kn,kt,kl⟩:=hp _ (Zq.2 rfl);have hR':=(hR.drop (q.toNat*it.size)).take it.size;rw [kt] at hR';have:=run_part (P:=P) (w:=w) (cs:=cs) (off:=q.toNat*it.size) (run_isAgg hT h1 w) (run_size hT h1 w) rfl (by rw [hR'.1,kl]) (mkD_one h2 kl);refine Yields.val ?_ (.d _ _ (RD.mkD hR' h2));simp [execOp,ho,Instr.index,hc,hd,asIntOf,kind_array hT hi hk,run_size hT h1,k0,kn,this]
  ·simp at he
 ·simp at he
theorem convert_sound {s t:TypeId} {x:Operand} {i i':TI} {vx:V} (ho:o.op = .convert s t x) (hx:RV bs Z w vx (a.eval x)) (hs:tt.lookup s=some i') (hi:tt.lookup t=some i)
 (he:evConvert i vx=some (v,ps)):Yields P bs Z w o a v:=by
 unfold evConvert at he;split at he
 ·have ex:=hx.lit;split at he
  ·rename_i k n _ k' hk;simp only [Zf,Ze] at he;obtain ⟨rfl,rfl⟩:=he;obtain ⟨d,h1,_,_⟩:=run_und hT hs w;refine Yields.val ?_ (RV.mki _ _);simp [execOp,ho,convert,h1,kind_int hT hi hk,ex,Conv.intToInt]
  ·simp at he
 ·simp at he
end cases
end Go.Sx
end
section
namespace Go.Sx
open Go
set_option linter.unusedSimpArgs false
set_option linter.unusedVariables false
section cases
variable {P:Program} {tt:Tab} {bs:Bs} {Z:Nat→Prop} {w:World} {o:Oper} {a:Act} {v:V} {ps:List Prop}
theorem RV.asList {cells:List D} {ad:Addr} {e m cap:Nat} (h:RV bs Z w (.rop cells) (.pointer (some ad))) (hm:0<m) (hl:cells.length=m*e) (hc:m≤cap) (t:Bool) (ht:t=true→cap=m) :
 RD Z w (.list t e m cells) (.slice (some ad) m cap):=by
 cases h with|rop _ _ f hz hcell h1 hr=>exact .list t e m cells ad cap f hm hl hz hc ht hcell h1 hr
theorem run_bounds {lo hi:Option Operand} {get:Operand→V} {n cap:Nat} {l u:Int} (b:Bool)
 (hlo:∀x∈lo,RV bs Z w (get x) (a.eval x)) (hhi:∀x∈hi,RV bs Z w (get x) (a.eval x))
 (h1:boundI (lo.map get) 0=some l) (h2:boundI (hi.map get) n=some u) (h0:0≤l) (hlu:l≤u) (hun:u≤n) (hc:n≤cap) :
 (Instr.sliceBounds b n cap (lo.map a.eval) (hi.map a.eval) none).run P w = .ok (l.toNat,u.toNat,cap) w:=by
 have key:∀(x:Option Operand) (z:Int) (k:Int) (dflt:Int),(∀y∈x,RV bs Z w (get y) (a.eval y))→boundI (x.map get) dflt=some k →
  (x=none∧k=dflt)∨∃y kk,x=some y∧a.eval y = .int kk k:=by
  intro x z k dflt hx hb;cases x with
  | none=>simp [boundI] at hb;exact .inl ⟨rfl,hb.symm⟩
  | some y =>
   have h:=hx y rfl;simp only [Zo] at hb;generalize get y=g at h hb;unfold boundI at hb;split at hb
   ·rename_i heq;simp at heq
   ·rename_i heq;simp at heq;subst heq;simp at hb;subst hb;exact .inr ⟨y,_,rfl,h.lit⟩
   ·simp at hb
 have hu0:0≤u:=by omega
 unfold Instr.sliceBounds;rcases key hi 0 u n hhi h2 with ⟨rfl,rfl⟩|⟨y,ky,rfl,ey⟩<;>rcases key lo 0 l 0 hlo h1 with ⟨rfl,rfl⟩|⟨x,kx,rfl,ex⟩
 ·simp
 ·simp [Instr.sliceBound,ex,asIntOf,h0,hlu]
 ·have:u≤(cap:Int):=by omega
  simp [Instr.sliceBound,ey,asIntOf,hu0,this]
 ·have:u≤(cap:Int):=by omega
  have:l≤(u.toNat:Int):=by omega
  have h3:¬(max u 0<l):=by omega
  simp [Instr.sliceBound,ex,ey,asIntOf,h0,hu0, *]
variable (hT:Tab.ok P tt)
include hT
theorem slice_sound {Γ:Ctx} {H:List O} (hW:InvW Γ H bs Z w) {t:TypeId} {x:Operand} {lo hi:Option Operand} {get:Operand→V} {i:TI} {h:Hint} {vx:V} (ho:o.op = .slice t x lo hi none) (hx:RV bs Z w vx (a.eval x))
 (hlo:∀x∈lo,RV bs Z w (get x) (a.eval x)) (hhi:∀x∈hi,RV bs Z w (get x) (a.eval x)) (hti:tt.lookup t=some i)
 (he:evSlice tt i h H (lo.map get) (hi.map get) vx=some (v,ps)) (hp:∀p∈ps,p):Yields P bs Z w o a v:=by
 generalize hc:a.eval x=c at hx;unfold evSlice at he;split at he
 ·
  rename_i tight e n cells;cases hx with|d _ _ hx =>
  split at he
  ·rename_i ty m out l u hk hl hu;simp only [Zi] at he;obtain ⟨it,h1,h2⟩:=he;split at h2
   ·rename_i hsz;simp at hsz;simp only [Zf,Ze] at h2;obtain ⟨rfl,rfl⟩:=h2;obtain ⟨q0,q1,q2,q3,q4⟩:=hp _ (Zq.2 rfl)
    have key:∀(ad:Option Addr) (cap:Nat),c = .slice ad n cap→n≤cap →
     (execOp a.eval o).run P w = .ok (.value (.slice (if cap=l.toNat then ad else ad.map (·.add (l.toNat*it.size))) (u.toNat-l.toNat) (cap-l.toNat))) w:=by
     intro ad cap e1 hcap;have:=run_bounds (P:=P) (w:=w) (a:=a) (cap:=cap) true hlo hhi hl hu q0 q1 q2 hcap;simp [execOp,ho,Instr.sliceAt,kind_slice hT hti hk,Instr.slice,hc,e1,this,run_size hT h1]
    have hm:u.toNat-l.toNat=m:=by omega
    cases hx with
    | list0 _ _ ad cap ht =>
     have e0:m=0:=by omega
     have e1:out=[]:=by rw [q4,e0];simp
     refine Yields.val (key ad cap rfl (Nat.zero_le _)) (.d _ _ ?_);rw [hm,e0,e1];exact .list0 _ _ _ _ (by simp)
    | list _ _ _ _ ad cap f hn hl' hz hcap ht hcell h1' hr =>
     refine Yields.val (key (some ad) cap rfl hcap) (.d _ _ ?_);rw [hm];by_cases hm0:m=0
     ·have e1:out=[]:=by rw [q4,hm0];simp
      rw [hm0,e1];exact .list0 _ _ _ _ (by simp)
     ·rw [if_neg (by omega)];have hr2:=(RV.rop_drop (.rop cells ad f hz hcell h1' hr:RV bs Z w _ _) (l.toNat*e)).rop_take (m*e);rw [←q4] at hr2;simp only [Zo,hsz];refine hr2.asList (by omega) ?_ (by omega) false (by simp);rw [q4,ZS,Z8,hl'];have h3:l.toNat*e+m*e≤n*e:=by rw [←ZU];exact ZQ _ (by omega)
      omega
   ·simp at h2
  ·simp at he
 ·rename_i e id off n;split at he
  ·rename_i ty l u hk hl hu;simp only [Zi] at he;obtain ⟨it,h1,h2⟩:=he;split at h2
   ·rename_i hsz;simp at hsz;simp only [Zf,Ze] at h2;obtain ⟨rfl,rfl⟩:=h2;obtain ⟨q0,q1,q2,q3⟩:=hp _ (Zq.2 rfl)
    have key:∀(ad:Option Addr) (cap:Nat),c = .slice ad n cap→n≤cap →
     (execOp a.eval o).run P w = .ok (.value (.slice (if cap=l.toNat then ad else ad.map (·.add (l.toNat*it.size))) (u.toNat-l.toNat) (cap-l.toNat))) w:=by
     intro ad cap e1 hcap;have:=run_bounds (P:=P) (w:=w) (a:=a) (cap:=cap) true hlo hhi hl hu q0 q1 q2 hcap;simp [execOp,ho,Instr.sliceAt,kind_slice hT hti hk,Instr.slice,hc,e1,this,run_size hT h1]
    have hm:u.toNat-l.toNat=(u-l).toNat:=by omega
    cases hx with
    | sl0 _ _ hb =>
     refine Yields.val (key none 0 rfl (Nat.zero_le _)) ?_;have e1:l=0:=by simp at q2;omega
     have e2:u=0:=by simp at q2;omega
     subst e1;subst e2;simpa using (RV.sl0 e id hb:RV bs Z w _ _)
    | sl _ _ _ _ b k cap hb hcap hkk hmm =>
     refine Yields.val (key (some ⟨b,off,none⟩) cap rfl hcap) ?_;rw [hm]
     have e1:(if cap=l.toNat then some (⟨b,off,none⟩:Addr) else (some (⟨b,off,none⟩:Addr)).map (·.add (l.toNat*it.size)))=some ⟨b,off+l.toNat*it.size,none⟩:=by
      split
      ·rename_i e;have:l=0:=by rcases q3 with h|h<;>omega
       subst this;simp
      ·simp [addr_add]
     rw [e1];refine .sl e id _ _ b k _ hb (by omega) ?_ (by omega);rw [hsz];have:l.toNat*e+(cap-l.toNat)*e=cap*e:=by rw [←ZU];congr 1;omega
     omega
   ·simp at h2
  ·simp at he
 ·rename_i id off;split at he
  ·rename_i n ty hk;split at he
   ·rename_i l u xs hl hu hH;simp only [Zc,Ze] at he;obtain ⟨it,h1,rfl,rfl⟩:=he;obtain ⟨q0,q1,q2,q3,q4,q5⟩:=hp _ (Zq.2 rfl);cases hx with|ref _ _ b k hb =>
    obtain ⟨cs,ty,_,g2,g3,_⟩:=hW.row hH hb;have hbd:=run_bounds (P:=P) (w:=w) (a:=a) (cap:=n) false hlo hhi hl hu q0 q1 q2 (Zx _);refine Yields.val (c := .slice (some (if n=l.toNat then (⟨b,off,none⟩:Addr) else (⟨b,off,none⟩:Addr).add (l.toNat*it.size))) (u.toNat-l.toNat) (n-l.toNat)) ?_ ?_
    ·simp [execOp,ho,Instr.sliceAt,kind_array hT hti hk,hc,Instr.sureAddr,hbd,run_size hT h1]
    ·have e1:(if n=l.toNat then (⟨b,off,none⟩:Addr) else (⟨b,off,none⟩:Addr).add (l.toNat*it.size))=⟨b,off+l.toNat*it.size,none⟩:=by
      split
      ·have:l=0:=by rcases q3 with h|h<;>omega
       subst this;simp
      ·simp [addr_add]
     rw [e1,show u.toNat-l.toNat=(u-l).toNat by omega];refine .sl it.size id _ _ b k _ hb (by omega) ?_ (by omega);have:l.toNat*it.size+(n-l.toNat)*it.size=n*it.size:=by rw [←ZU];congr 1;omega
     omega
   ·simp at he
  ·simp at he
 ·
  rename_i cells;split at he
  ·rename_i n ty hk;split at he
   case h_2=>simp at he
   rename_i m out l u hl hu;simp only [Zc,Ze] at he;obtain ⟨it,h1,rfl,rfl⟩:=he;obtain ⟨⟨q0,q1,q2,q3,q4⟩,q5⟩:=hp _ (Zq.2 rfl);have hbd:=run_bounds (P:=P) (w:=w) (a:=a) (cap:=n) false hlo hhi hl hu q0 q1 q2 (Zx _);cases hx with|rop _ ad f hz hcell h1' hr =>
   refine Yields.val (c := .slice (some (if n=l.toNat then ad else ad.add (l.toNat*it.size))) (u.toNat-l.toNat) (n-l.toNat)) ?_ (.d _ _ ?_)
   ·simp [execOp,ho,Instr.sliceAt,kind_array hT hti hk,hc,Instr.sureAddr,hbd,run_size hT h1]
   ·have hm:u.toNat-l.toNat=m:=by omega
    rw [hm];by_cases hm0:m=0
    ·have e1:out=[]:=by rw [q4,hm0];simp
     rw [hm0,e1];exact .list0 _ _ _ _ (by simp)
    ·rw [if_neg (by omega)];have hr2:=(RV.rop_drop (.rop cells ad f hz hcell h1' hr:RV bs Z w _ _) (l.toNat*it.size)).rop_take (m*it.size);rw [←q4] at hr2;refine hr2.asList (by omega) ?_ (by omega) false (by simp);rw [q4,ZS,Z8,q5];have h3:l.toNat*it.size+m*it.size≤n*it.size:=by rw [←ZU];exact ZQ _ (by omega)
     omega
  ·simp at he
 ·
  rename_i s;have hx':=hx.lit;subst hx';split at he
  ·rename_i l u hk hl hu;simp only [Zf,Ze] at he;obtain ⟨rfl,rfl⟩:=he;obtain ⟨q0,q1,q2⟩:=hp _ (Zq.2 rfl);obtain ⟨d,hu1,hu2,_⟩:=(hT t i hti).kind;rw [hk] at hu2;cases hu2;have:=run_bounds (P:=P) (w:=w) (a:=a) (cap:=s.size) false hlo hhi hl hu q0 q1 q2 (Zx _);exact Yields.val (by simp [execOp,ho,Instr.sliceAt,run_underlying hu1,Instr.slice,hc,this]) (.d _ _ (.v _ rfl))
  ·simp at he
 ·simp at he
omit hT in
theorem run_len {c:Call} {x:Operand} {m:Nat} (ho:o.op = .call c) (hc:c.callee = .builtin .len) (ha:c.args.toList=[x]) (hr:∀t,(Builtin.len_ c.argTypes t #[a.eval x]).run P w = .ok (goInt m) w) :
 (execOp a.eval o).run P w = .ok (.value (goInt m)) w:=by
 obtain ⟨callee,⟨args⟩,tys⟩:=c;simp at ha hc;subst ha;subst hc;simp at hr;simp [execOp,ho,resolve,invoke,builtin,hr]
end cases
section build
variable {P:Program} {tt:Tab} {bs:Bs} {Z:Nat→Prop} {w:World} {o:Oper} {a:Act} {v:V} {ps:List Prop}
theorem fold_putAt (us:List Value):∀(k:Nat) (cs:Array Value) (off:Nat),((us.zipIdx k).foldl (fun cs (x:Value×Nat)=>cs.setIfInBounds (off+x.2) x.1) cs).toList=putAt cs.toList (off+k) us:=by
 induction us with
 | nil=>intro k cs off;rfl
 | cons u us ih =>
  intro k cs off;simp only [List.zipIdx_cons,YE,putAt];rw [ih];simp [Nat.add_assoc]
theorem fill_sound {place:Nat→Option (Nat×Nat)} {get:Operand→V}:∀(parts:List (Nat×Operand)) (vs:List V) (cs:Array Value) (out:List V),
 RVL bs Z w vs cs.toList→(∀p∈parts,RV bs Z w (get p.2) (a.eval p.2))→buildFrom place get vs parts=some out →
 ∃ds:Array Value,Instr.fill place cs (parts.map fun p=>(p.1,a.eval p.2))=some ds∧RVL bs Z w out ds.toList:=by
 intro parts;induction parts with
 | nil=>intro vs cs out h _ he;simp [buildFrom] at he;subst he;exact ⟨cs,rfl,h⟩
 | cons p ps ih =>
  intro vs cs out h hx he;obtain ⟨i,x⟩:=p;unfold buildFrom at he;split at he
  ·rename_i off s us hpl hcl;split at he
   ·rename_i hcond;simp at hcond;obtain ⟨hl,hle⟩:=hcond;have hr:=(hx (i,x) (by simp)).one hcl;have hsz:(a.eval x).cells.size=s:=by have:=hr.1;simp at this;omega
    have hcs:cs.size=vs.length:=by simpa using h.1
    have h2:=RVL.putAt off h hr;have e:=fold_putAt (a.eval x).cells.toList 0 cs off
    obtain ⟨ds,hd1,hd2⟩:=ih _ ((a.eval x).cells.zipIdx.foldl (fun cs (c,j)=>cs.setIfInBounds (off+j) c) cs) out (by
     rw [←Array.foldl_toList,Array.toList_zipIdx,e]
     simpa using h2) (fun p hp=>hx p (by simp [hp])) he
    refine ⟨ds,?_,hd2⟩;simp only [ZW,Instr.fill,hpl];rw [if_neg]
    ·exact hd1
    ·simp [hsz];omega
   ·simp at he
  ·simp at he
variable (hT:Tab.ok P tt)
include hT
theorem zero_rel {t:TypeId} {i:TI} (hi:tt.lookup t=some i) (z:Value) (hz:z.cells.toList=i.zero):RVL bs Z w (i.zero.map fun z => .d (.v z)) z.cells.toList:=by
 rw [hz];refine ⟨by simp,fun j x c hx hc=>?_⟩;rw [Zj,hc] at hx;simp at hx;subst hx;have:=(hT t i hi).ones c (ZG hc);exact ⟨this,.d _ _ (.v _ this)⟩
omit hT in
theorem run_mapM_list {α β:Type} (F:α→Sem β) (g:α→β):∀(xs:List α),(∀x∈xs,(F x).run P w = .ok (g x) w)→(xs.mapM F).run P w = .ok (xs.map g) w:=by
 intro xs;induction xs with
 | nil=>intro _;simp
 | cons x xs ih =>
  intro h;have h1:=h x (by simp);have h2:=ih fun y hy=>h y (by simp [hy]);simp only [List.mapM_cons,Zy,h1,Zm,h2,ZJ,ZW]
omit hT in
theorem run_mapM_arr {α β:Type} (F:α→Sem β) (g:α→β) (xs:Array α) (h:∀x∈xs,(F x).run P w = .ok (g x) w):(xs.mapM F).run P w = .ok (xs.map g) w:=by
 rw [Array.mapM_eq_mapM_toList,Sem.run_map,run_mapM_list F g xs.toList (fun x hx=>h x (by simpa using hx))];simp only [Zm];congr 1;apply Array.ext';simp
theorem build_sound {t:TypeId} {parts:Array (Nat×Operand)} {get:Operand→V} {i:TI} (ho:o.op = .build t parts) (hx:∀p∈parts.toList,RV bs Z w (get p.2) (a.eval p.2))
 (hi:tt.lookup t=some i) (he:evBuild i get parts.toList (fun e=>(tt.lookup e).map (·.size))=some (v,ps)):Yields P bs Z w o a v:=by
 obtain ⟨z,hz1,hz2⟩:=run_zero hT hi w;have hz:=zero_rel hT (bs:=bs) (Z:=Z) (w:=w) hi z hz2;have hmap:(parts.map fun (p:Nat×Operand)=>(p.1,a.eval p.2)).toList=parts.toList.map fun p=>(p.1,a.eval p.2):=by simp
 unfold evBuild at he;split at he
 ·rename_i fs hk;simp only [Zc,Ze] at he;obtain ⟨out,h1,rfl,rfl⟩:=he;obtain ⟨d,g1,g2,g3⟩:=(hT t i hi).kind;rw [hk] at g2;obtain ⟨fields,rfl,hl,hall⟩:=g2;obtain ⟨ds,hd1,hd2⟩:=fill_sound (a:=a) parts.toList _ z.cells out hz hx h1
  have hplaces:=run_mapM_arr (P:=P) (w:=w) (fun (f:Field)=>do pure (f.offset,←sizeOf f.type)) (fun f=>(f.offset,P.cellsOf f.type)) fields (fun f hf=>by
   obtain ⟨j,hj,e⟩:=Array.getElem_of_mem hf;obtain ⟨inf,u,k1,k2,k3,k4⟩:=hall j f (by simp [hj,e])
   simp [sizeOf,typeInfo,k1,Program.cellsOf])
  have hpl:(fun (j:Nat)=>(fields.map fun (f:Field)=>(f.offset,P.cellsOf f.type))[j]?)=fun (j:Nat)=>(fs[j]?).map fun (p:Nat×Nat×Bool)=>(p.1,p.2.1):=by
   funext j;by_cases hj:j<fields.size
   ·obtain ⟨inf,u,k1,k2,k3,k4⟩:=hall j fields[j] (by simp [hj]);rw [k3];simp [hj,Program.cellsOf,k1]
   ·have:fs[j]? = none:=ZC (by omega);rw [this];simp [hj]
  refine Yields.val (c := .agg ds) ?_ (by simpa using RV.mkAgg hd2);rw [←hpl] at hd1;simp only [execOp,ho,Instr.build,Zy,hz1,Zm,run_underlying g1,hplaces,hmap,hd1,ZJ]
 ·rename_i n e hk;simp only [Zc,Zi,Ze] at he;obtain ⟨sz,⟨it,h1,rfl⟩,out,h2,rfl,rfl⟩:=he;obtain ⟨ds,hd1,hd2⟩:=fill_sound (a:=a) parts.toList _ z.cells out hz hx h2;refine Yields.val (c := .agg ds) ?_ (by simpa using RV.mkAgg hd2);simp only [execOp,ho,Instr.build,Zy,hz1,Zm,kind_array hT hi hk,run_size hT h1,hmap,hd1,ZJ]
 ·simp at he
omit hT in
theorem fillRow_sound {e:Nat} {get:Operand→V}:∀(parts:List (Nat×Operand)) (k:Nat) (vs:List V) (cs:Array Value),
 (∀p∈parts,RV bs Z w (get p.2) (a.eval p.2))→buildRow e get k parts=some vs→(k+parts.length)*e=cs.size →
 ∃ds:Array Value,Instr.fill (fun i=>some (i*e,e)) cs (parts.map fun p=>(p.1,a.eval p.2))=some ds∧ds.size=cs.size∧ds.toList.take (k*e)=cs.toList.take (k*e)∧RVL bs Z w vs (ds.toList.drop (k*e)):=by
 intro parts;induction parts with
 | nil =>
  intro k vs cs _ he hs;simp [buildRow] at he;subst he;simp at hs;refine ⟨cs,rfl,rfl,rfl,?_⟩;rw [Yo (by simp;omega)];exact RVL.nil
 | cons p ps ih =>
  intro k vs cs hx he hs;obtain ⟨i,x⟩:=p;unfold buildRow at he;split at he
  ·rename_i us hcl;split at he
   ·rename_i hcond;simp at hcond;obtain ⟨hl,rfl⟩:=hcond;simp only [Zc] at he;obtain ⟨rest,h1,rfl⟩:=he;have hr:=(hx (i,x) (by simp)).one hcl;have hsz:(a.eval x).cells.size=e:=by have:=hr.1;simp at this;omega
    have hfit:i*e+e≤cs.size:=by
     rw [←hs];simp only [ZF,ZU];omega
    have ef:=fold_putAt (a.eval x).cells.toList 0 cs (i*e)
    obtain ⟨ds,k1,k2,k3,k4⟩:=ih (i+1) rest ((a.eval x).cells.zipIdx.foldl (fun cs (c,j)=>cs.setIfInBounds (i*e+j) c) cs) (fun p hp=>hx p (by simp [hp])) h1 (by
     have:((a.eval x).cells.zipIdx.foldl (fun cs (c,j)=>cs.setIfInBounds (i*e+j) c) cs).size=cs.size:=by
      rw [←YC,←Array.foldl_toList,Array.toList_zipIdx,ef,putAt_length];simp
     rw [this,←hs];simp only [ZF];congr 1
     omega)
    have hsize:((a.eval x).cells.zipIdx.foldl (fun cs (c,j)=>cs.setIfInBounds (i*e+j) c) cs).size=cs.size:=by
     rw [←YC,←Array.foldl_toList,Array.toList_zipIdx,ef,putAt_length];simp
    have htl:((a.eval x).cells.zipIdx.foldl (fun cs (c,j)=>cs.setIfInBounds (i*e+j) c) cs).toList=cs.toList.take (i*e)++(a.eval x).cells.toList++cs.toList.drop (i*e+e):=by
     rw [←Array.foldl_toList,Array.toList_zipIdx,ef,Yp,putAt_eq _ _ _ (by simp;omega)];simp [hsz]
    refine ⟨ds,?_,by rw [k2,hsize],?_,?_⟩
    ·simp only [ZW,Instr.fill];rw [if_neg]
     ·exact k1
     ·simp [hsz];omega
    ·have:=congrArg (List.take (i*e)) k3;rw [List.take_take,List.take_take,Yz (by rw [ZU];omega),htl] at this;rw [this];rw [Yi,Ya (by simp;omega),List.take_take,Nat.min_self]
    ·have hsplit:ds.toList.drop (i*e)=(a.eval x).cells.toList++ds.toList.drop ((i+1)*e):=by
      have h5:ds.toList=ds.toList.take ((i+1)*e)++ds.toList.drop ((i+1)*e):=(Yl _ _).symm
      have h6:ds.toList.take ((i+1)*e)=cs.toList.take (i*e)++(a.eval x).cells.toList:=by
       rw [k3,htl,ZU,Nat.one_mul,Ya (by simp [hsz];omega),ZH (by simp [hsz];omega)]
      have h7:ds.toList.drop (i*e)=(cs.toList.take (i*e)++(a.eval x).cells.toList++ds.toList.drop ((i+1)*e)).drop (i*e):=by rw [←h6,Yl]
      rw [h7,Yi,Yf (by simp;omega),Yo (by simp;omega)];simp
     rw [hsplit];exact RVL.append hr k4
   ·simp at he
  ·simp at he
omit hT in
theorem Grow.alloc (Z:Nat→Prop) (w:World) (o:Obj):Grow Z w (fun b=>Z b∨b=w.heap.size) (w.alloc o):=by
 refine ⟨rfl,rfl,rfl,by simp,fun b hb=>?_,fun b h => .inl h,fun b h=>?_⟩
 ·show (w.heap.push o)[b]? = _;rw [Array.getElem?_push,if_neg (by omega)]
 ·rcases h with h|h
  ·exact .inl h
  ·exact .inr ⟨by omega,by simp;omega⟩
omit hT in
theorem heap_alloc (w:World) (o:Obj):(w.alloc o).heap[w.heap.size]? = some o:=by
 show (w.heap.push o)[w.heap.size]? = _;simp
theorem run_buildSlice {t:TypeId} {len:Nat} {parts:Array (Nat×Operand)} {get:Operand→V} {i:TI} {e:Nat} {vs:List V} (hx:∀p∈parts.toList,RV bs Z w (get p.2) (a.eval p.2))
 (hi:tt.lookup t=some i) (he:evBuildRow tt i get len parts.toList=some (e,vs)) :
 ∃(cs:Array Value) (el:TypeId),(Instr.buildSlice t len (parts.map fun (i,x)=>(i,a.eval x))).run P w = .ok (.slice (some ⟨w.heap.size,0,none⟩) len len) (w.alloc (.cells cs el)) ∧
  RVL bs Z w vs cs.toList∧cs.size=len*e:=by
 unfold evBuildRow at he;split at he
 ·rename_i el hk;simp only [Zi] at he;obtain ⟨it,h1,h2⟩:=he;split at h2
  ·rename_i hc;simp at hc;obtain ⟨hc1,hc2⟩:=hc;simp only [Zc,Ze] at h2;obtain ⟨us,h3,rfl,rfl⟩:=h2;obtain ⟨z,hz1,hz2⟩:=run_zero hT h1 w;have hmap:(parts.map fun (p:Nat×Operand)=>(p.1,a.eval p.2)).toList=parts.toList.map fun p=>(p.1,a.eval p.2):=by simp
   have hgo:∀zs:Array Value,∃ds:Array Value,Instr.fill (fun i=>some (i*it.size,it.size)) ((Array.range (len*it.size)).map (zs[· % zs.size]!)) (parts.toList.map fun p=>(p.1,a.eval p.2))=some ds ∧
    RVL bs Z w us ds.toList∧ds.size=len*it.size:=by
    intro zs;obtain ⟨ds,k1,k2,k3,k4⟩:=fillRow_sound (a:=a) (bs:=bs) (Z:=Z) (w:=w) parts.toList 0 us ((Array.range (len*it.size)).map (zs[· % zs.size]!)) hx h3 (by simp [hc1]);exact ⟨ds,k1,by simpa using k4,by rw [k2];simp⟩
   by_cases h0:len*it.size=0
   ·obtain ⟨ds,k1,k2,k3⟩:=hgo #[];refine ⟨ds,el,?_,k2,k3⟩;simp only [Instr.buildSlice,Zy,kind_slice hT hi hk,Zm,run_size hT h1];rw [if_neg (by omega),if_pos h0];simp only [ZJ,Zm,Zy,hmap,k1,newRow,run_newObj];rfl
   ·obtain ⟨ds,k1,k2,k3⟩:=hgo z.cells;refine ⟨ds,el,?_,k2,k3⟩;simp only [Instr.buildSlice,Zy,kind_slice hT hi hk,Zm,run_size hT h1];rw [if_neg (by omega),if_neg h0];simp only [ZJ,Zm,Zy,hz1,hmap,k1,newRow,run_newObj];rfl
  ·simp at h2
 ·simp at he
theorem buildSlice_sound {t:TypeId} {len:Nat} {parts:Array (Nat×Operand)} {get:Operand→V} {i:TI} {e:Nat} {vs:List V} {ds:List D} (ho:o.op = .buildSlice t len parts)
 (hzl:∀b,Z b→b<w.heap.size) (hx:∀p∈parts.toList,RV bs Z w (get p.2) (a.eval p.2))
 (hi:tt.lookup t=some i) (he:evBuildRow tt i get len parts.toList=some (e,vs)) (hd:allD vs=some ds) (tg:Bool):Yields P bs Z w o a (.d (.list tg e len ds)):=by
 obtain ⟨cs,el,hr,hR,hs⟩:=run_buildSlice hT (P:=P) (w:=w) (Z:=Z) hx hi he;have:=allD_map hd;subst this;have hRD:=hR.toD;intro next Q hn;unfold Oper.wp
 have:(execOp a.eval o).run P w = .ok (.value (.slice (some ⟨w.heap.size,0,none⟩) len len)) (w.alloc (.cells cs el)):=by
  simp only [execOp,ho,Zy,hr,Zm,ZJ]
 rw [this];have hg:=Grow.alloc Z w (.cells cs el);refine hn _ _ _ hg (.d _ _ ?_);have hl:ds.length=len*e:=by have:=hRD.1;simp at this;omega
 by_cases h0:len=0
 ·subst h0;have:ds=[]:=ZO (by simpa using hl);subst this;exact .list0 _ _ _ _ (fun _=>rfl)
 ·refine .list tg e len ds _ len (fun j=>cs.toList.getD j undef) (by omega) hl (.inr rfl) (Zx _) (fun _=>rfl) (fun j hj=>?_) (fun j hj=>?_) (fun j x hx=>?_)
  ·rw [cell_at (heap_alloc w _)];simp [show j<cs.size by omega,List.getD]
  ·have:=(hRD.2 j ds[j] (cs.toList.getD j undef) (Zd hj) (by simp [show j<cs.size by omega,List.getD])).1;exact this
  ·have hj:j<ds.length:=(Zb.1 hx).1;have:=(hRD.2 j x (cs.toList.getD j undef) hx (by simp [show j<cs.size by omega,List.getD])).2;exact this.mono hg.zs (fun b hb=>hg.heap b (hzl b hb))
end build
end Go.Sx
end
section
namespace Go.Sx
open Go
set_option linter.unusedSimpArgs false
set_option linter.unusedVariables false
section
variable {P:Program} {Z:Nat→Prop} {w:World}
theorem scal_run (d:Nat) {t:TypeId} {x y:D} {a b:Value} {r:Bool} (hb:scalB P t x=true) (h:scal x y=some r) (hx:RD Z w x a) (hy:RD Z w y b):(Op.equalIn (d+1) t a b).run P w = .ok r w:=by
 unfold scal at h;split at h
 ·rename_i k m k' n;split at h
  ·rename_i hs;have:=same_eq hs;subst this;simp at h;subst h;cases hx;cases hy;unfold scalB at hb;split at hb<;>simp_all;simp [Op.equalIn,run_underlying ‹_›]
  ·simp at h
 ·simp at h;subst h;cases hx;cases hy;unfold scalB at hb;split at hb<;>simp_all;simp [Op.equalIn,run_underlying ‹_›]
 ·simp at h;subst h;cases hx;cases hy;unfold scalB at hb;split at hb<;>simp_all;simp [Op.equalIn,run_underlying ‹_›]
 ·simp at h
theorem scalB_notAgg {t:TypeId} {x:D} (hb:scalB P t x=true) (w:World):(isAgg t).run P w = .ok false w:=by
 unfold scalB at hb;unfold isAgg;split at hb
 ·rename_i h;simp [run_underlying h]
 ·rename_i h;simp [run_underlying h]
 ·rename_i h;simp [run_underlying h]
 ·simp at hb
theorem part_one {t:TypeId} {cs:Array Value} {off:Nat} {c:Value} (h:(isAgg t).run P w = .ok false w) (hc:cs[off]? = some c):(part t cs off).run P w = .ok c w:=by
 unfold part;simp [h,hc]
theorem eqL_cons {x y:D} {xs ys:List D} {r:Bool} (h:eqL (x::xs) (y::ys)=some r):∃a b,scal x y=some a∧eqL xs ys=some b∧r=(a&&b):=by
 unfold eqL at h;split at h
 ·simp at *
 ·rename_i h1 h2;simp at h1 h2;obtain ⟨rfl,rfl⟩:=h1;obtain ⟨rfl,rfl⟩:=h2;exact ⟨r,true,h,rfl,by simp⟩
 ·rename_i h1 h2;simp at h1 h2;obtain ⟨rfl,rfl⟩:=h1;obtain ⟨rfl,rfl⟩:=h2;split at h
  ·rename_i a b ha hb;simp at h;exact ⟨a,b,ha,hb,h.symm⟩
  ·simp at h
 ·simp at h
theorem eqFields_run (d:Nat) {cs ds:Array Value}:∀(fs:List Field) (k:Nat) (xs ys:List D) (r:Bool),eqFieldsB P fs k xs=true→eqL xs ys=some r→(∀(j:Nat) x,xs[j]? = some x→∃c,cs[k+j]? = some c∧RD Z w x c)→(∀(j:Nat) x,ys[j]? = some x→∃c,ds[k+j]? = some c∧RD Z w x c) →
 (Op.eqFields (d+1) cs ds fs).run P w = .ok r w:=by
 intro fs;induction fs with
 | nil =>
  intro k xs ys r h he _ _;cases xs with
  | nil =>
   cases ys with
   | nil=>simp [eqL] at he;subst he;simp [Op.eqFields]
   | cons=>simp [eqL] at he
  | cons=>simp [eqFieldsB] at h
 | cons f fs ih =>
  intro k xs ys r h he hx hy;cases xs with
  | nil=>simp [eqFieldsB] at h
  | cons x xs =>
   cases ys with
   | nil=>simp [eqL] at he
   | cons y ys =>
    simp only [eqFieldsB,Zh] at h;obtain ⟨⟨⟨h1,h2⟩,h3⟩,h4⟩:=h;obtain ⟨a,b,e1,e2,rfl⟩:=eqL_cons he;have hoff:f.offset=k:=by simpa using h2
    obtain ⟨c,hc,hrc⟩:=hx 0 x rfl;obtain ⟨c',hc',hrc'⟩:=hy 0 y rfl;have hn:=scalB_notAgg h3 w;have p1:=part_one (P:=P) (w:=w) (cs:=cs) (off:=f.offset) (c:=c) hn (by rw [hoff];simpa using hc);have p2:=part_one (P:=P) (w:=w) (cs:=ds) (off:=f.offset) (c:=c') hn (by rw [hoff];simpa using hc');have hr:=scal_run d h3 e1 hrc hrc';have hne:f.name ≠ "_" := by simpa using h1
    have hrest:=ih (k+1) xs ys b h4 e2 (fun j u hu=>by
     obtain ⟨c,h5,h6⟩:=hx (j+1) u (by simpa using hu)
     exact ⟨c,by rw [show k+1+j=k+(j+1) by omega];exact h5,h6⟩) (fun j u hu=>by
     obtain ⟨c,h5,h6⟩:=hy (j+1) u (by simpa using hu)
     exact ⟨c,by rw [show k+1+j=k+(j+1) by omega];exact h5,h6⟩)
    simp only [Op.eqFields,if_pos hne,Zy,p1,p2,hr,Zm];cases a
    ·simp
    ·simpa using hrest
theorem eqItems_run (d:Nat) {e:TypeId} {cs ds:Array Value}:∀(xs ys:List D) (k:Nat) (r:Bool),xs.all (scalB P e)=true→eqL xs ys=some r→(∀(j:Nat) x,xs[j]? = some x→∃c,cs[k+j]? = some c∧RD Z w x c)→(∀(j:Nat) x,ys[j]? = some x→∃c,ds[k+j]? = some c∧RD Z w x c) →
 (Op.eqItems (d+1) e 1 cs ds (List.range' k xs.length)).run P w = .ok r w:=by
 intro xs;induction xs with
 | nil =>
  intro ys k r h he _ _;cases ys with
  | nil=>simp [eqL] at he;subst he;simp [Op.eqItems]
  | cons=>simp [eqL] at he
 | cons x xs ih =>
  intro ys k r h he hx hy;cases ys with
  | nil=>simp [eqL] at he
  | cons y ys =>
   simp only [List.all_cons,Zh] at h;obtain ⟨a,b,e1,e2,rfl⟩:=eqL_cons he;obtain ⟨c,hc,hrc⟩:=hx 0 x rfl;obtain ⟨c',hc',hrc'⟩:=hy 0 y rfl;have hn:=scalB_notAgg h.1 w;have p1:=part_one (P:=P) (w:=w) (cs:=cs) (c:=c) (off:=k*1) hn (by rw [Yw];simpa using hc);have p2:=part_one (P:=P) (w:=w) (cs:=ds) (c:=c') (off:=k*1) hn (by rw [Yw];simpa using hc');have hr:=scal_run d h.1 e1 hrc hrc'
   have hrest:=ih ys (k+1) b h.2 e2 (fun j u hu=>by
    obtain ⟨c,h5,h6⟩:=hx (j+1) u (by simpa using hu)
    exact ⟨c,by rw [show k+1+j=k+(j+1) by omega];exact h5,h6⟩) (fun j u hu=>by
    obtain ⟨c,h5,h6⟩:=hy (j+1) u (by simpa using hu)
    exact ⟨c,by rw [show k+1+j=k+(j+1) by omega];exact h5,h6⟩)
   rw [ZF,List.range'_succ];simp only [Op.eqItems,Zy,p1,p2,hr,Zm];cases a
   ·simp
   ·simpa using hrest
theorem eqL_split:∀(m:Nat) {xs ys:List D} {r:Bool},eqL xs ys=some r→∃a b,eqL (xs.take m) (ys.take m)=some a∧eqL (xs.drop m) (ys.drop m)=some b∧r=(a&&b):=by
 intro m;induction m with
 | zero=>intro xs ys r h;exact ⟨true,r,by simp [eqL],by simpa using h,by simp⟩
 | succ m ih =>
  intro xs ys r h;cases xs with
  | nil =>
   cases ys with
   | nil=>exact ⟨true,r,by simp [eqL],by simpa using h,by simp⟩
   | cons=>simp [eqL] at h
  | cons x xs =>
   cases ys with
   | nil=>simp [eqL] at h
   | cons y ys =>
    obtain ⟨a,b,h1,h2,rfl⟩:=eqL_cons h;obtain ⟨c,d,h3,h4,rfl⟩:=ih h2;refine ⟨a&&c,d,?_,h4,by rw [Bool.and_assoc]⟩;simp only [List.take_succ_cons];cases hx:xs.take m with
    | nil =>
     cases hy:ys.take m with
     | nil=>rw [hx,hy] at h3;simp [eqL] at h3;subst h3;simp [eqL,h1]
     | cons=>rw [hx,hy] at h3;simp [eqL] at h3
    | cons u us =>
     rw [hx] at h3;simp [eqL,h1,h3]
theorem eqL_len:∀{xs ys:List D} {r:Bool},eqL xs ys=some r→xs.length=ys.length:=by
 intro xs;induction xs with
 | nil=>intro ys r h;cases ys<;>simp [eqL] at h ⊢
 | cons x xs ih =>
  intro ys r h;cases ys with
  | nil=>simp [eqL] at h
  | cons y ys =>
   obtain ⟨a,b,_,e2,_⟩:=eqL_cons h;simp [ih e2]
theorem eqRows_run (d:Nat) {e s:TypeId} {m:Nat} (hu:P.underlying e=some (.array m s)) {i j:TypeInfo} (hi:P.info? s=some i) (hj:P.info? e=some j) (hm:P.cellsOf e=m) (hs:P.cellsOf s=1) {cs ds:Array Value}:∀(n k:Nat) (xs ys:List D) (r:Bool),xs.length=n*m→xs.all (scalB P s)=true→eqL xs ys=some r →
 (∀(j:Nat) x,xs[j]? = some x→∃c,cs[k*m+j]? = some c∧RD Z w x c)→(∀(j:Nat) x,ys[j]? = some x→∃c,ds[k*m+j]? = some c∧RD Z w x c) →
 (Op.eqItems (d+2) e m cs ds (List.range' k n)).run P w = .ok r w:=by
 have hag:(isAgg e).run P w = .ok true w:=by unfold isAgg;simp [run_underlying hu]
 have hsz:(sizeOf e).run P w = .ok m w:=by
  have:j.size=m:=by rw [←hm];simp [Program.cellsOf,hj]
  simp [sizeOf,typeInfo,hj,this]
 intro n;induction n with
 | zero =>
  intro k xs ys r hl h he _ _;obtain rfl:xs=[]:=Yy.1 (by simpa using hl);obtain rfl:ys=[]:=Yy.1 (by simpa using (eqL_len he).symm);simp [eqL] at he;subst he;simp [Op.eqItems]
 | succ n ih =>
  intro k xs ys r hl h he hx hy;have hyl:=(eqL_len he).symm.trans hl;obtain ⟨a,b,e1,e2,rfl⟩:=eqL_split m he;have hmn:m≤(n+1)*m:=by rw [ZU];omega
  have hpart:∀{zs:List D} {es:Array Value},zs.length=(n+1)*m→(∀(j:Nat) x,zs[j]? = some x→∃c,es[k*m+j]? = some c∧RD Z w x c) →
   ∃f:Array Value,(part e es (k*m)).run P w = .ok (.agg f) w∧∀(j:Nat) x,(zs.take m)[j]? = some x→∃c,f[0+j]? = some c∧RD Z w x c:=by
   intro zs es hzl hz;refine ⟨es.extract (k*m) (k*m+m),?_,fun j x hj=>?_⟩
   ·unfold part;simp [hag,hsz]
   ·rw [Zr] at hj;split at hj
    ·rename_i hjm;obtain ⟨c,hc,hr⟩:=hz j x hj;refine ⟨c,?_,hr⟩;have hlt:=(ZP.1 hc).1;rw [Array.getElem?_extract,if_pos (by omega),Zw];exact hc
    ·simp at hj
  obtain ⟨f1,p1,q1⟩:=hpart hl hx;obtain ⟨f2,p2,q2⟩:=hpart hyl hy;have hall:(xs.take m).all (scalB P s)=true:=ZB.2 fun x hx=>ZB.1 h x (List.mem_of_mem_take hx)
  have hrow:(Op.equalIn (d+2) e (.agg f1) (.agg f2)).run P w = .ok a w:=by
   rw [run_equalIn_array w (d+1) f1 f2 hu hi,List.range_eq_range',hs];have:=eqItems_run (w:=w) d (xs.take m) (ys.take m) 0 a hall e1 q1 q2
   rwa [show (xs.take m).length=m by rw [ZS,hl];omega] at this
  have hrest:=ih (k+1) (xs.drop m) (ys.drop m) b (by rw [Z8,hl,ZU];omega) (ZB.2 fun x hx=>ZB.1 h x (List.mem_of_mem_drop hx)) e2 (fun j u hu=>by
   rw [ZK] at hu;obtain ⟨c,h5,h6⟩:=hx (m+j) u hu
   exact ⟨c,by rw [show (k+1)*m+j=k*m+(m+j) by rw [ZU];omega];exact h5,h6⟩) (fun j u hu=>by
   rw [ZK] at hu;obtain ⟨c,h5,h6⟩:=hy (m+j) u hu
   exact ⟨c,by rw [show (k+1)*m+j=k*m+(m+j) by rw [ZU];omega];exact h5,h6⟩)
  rw [List.range'_succ];simp only [Op.eqItems,Zy,p1,p2,hrow,Zm];cases a
  ·simp
  ·simpa using hrest
theorem RD.aggAt {xs:List D} {c:Value} (h:RD Z w (.agg xs) c):∃cs:Array Value,c = .agg cs∧∀(j:Nat) x,xs[j]? = some x→∃c,cs[j]? = some c∧RD Z w x c:=by
 cases h with
 | agg _ cs f hl hf h1 hr =>
  refine ⟨cs,rfl,fun j x hx=>⟨f j,hf j ?_,hr j x hx⟩⟩;have:=(Zb.1 hx).1;omega
theorem equal_run {t:TypeId} {x y:D} {a b:Value} {r:Bool} (hb:eqB P t x=true) (h:eqD x y=some r) (hx:RD Z w x a) (hy:RD Z w y b):(Op.equal t a b).run P w = .ok r w:=by
 have hsc:∀{x y:D},(∀xs,x ≠ .agg xs)→eqB P t x=true→eqD x y=some r→RD Z w x a→RD Z w y b→(Op.equal t a b).run P w = .ok r w:=by
  intro x y hna hb h hx hy
  have h1:scalB P t x=true:=by
   cases x<;>first|exact hb|exact absurd rfl (hna _)
  have h2:scal x y=some r:=by
   unfold eqD at h;split at h
   ·exact absurd rfl (hna _)
   ·exact h
  exact scal_run 9999 h1 h2 hx hy
 cases x with
 | agg xs =>
  cases y with
  | agg ys =>
   obtain ⟨cs,rfl,hcs⟩:=hx.aggAt;obtain ⟨ds,rfl,hds⟩:=hy.aggAt;simp only [eqB,Zh,Bool.not_eq_true'] at hb;obtain ⟨⟨hst,hg⟩,hb⟩:=hb;simp only [eqD] at h;show (Op.equalIn 10000 t (.agg cs) (.agg ds)).run P w = .ok r w;split at hb
   ·rename_i fs hu;have hfo:P.fieldsOf t=fs:=by simp [Program.fieldsOf,hu]
    rw [run_equalIn_struct w 9999 t cs ds (by rw [hfo];exact hu) hst,hfo];exact eqFields_run 9998 fs.toList 0 xs ys r hb h (by simpa using hcs) (by simpa using hds)
   ·rename_i n e hu;simp only [Zh] at hb;obtain ⟨⟨⟨h1,h2⟩,h3⟩,h4⟩:=hb;obtain ⟨i,hi⟩:=Option.isSome_iff_exists.1 h2;rw [run_equalIn_array w 9999 cs ds hu hi,List.range_eq_range',show P.cellsOf e=1 by simpa using h1,show n=xs.length by simpa using (Z9 h3).symm];exact eqItems_run 9998 xs ys 0 r h4 h (by simpa using hcs) (by simpa using hds)
   ·simp at hb
  | _=>simp [eqD,scal] at h
 | _=>exact hsc (by intro xs e;cases e) hb h hx hy
theorem eqGuard_run {op:BinOp} {t:TypeId} {x y:Operand} {u v:D} {a b:Value} {r:Bool} (hb:eqB P t u=true) (h:eqD u v=some r) (hx:RD Z w u a) (hy:RD Z w v b):(eqGuard op t x y a b).run P w = .ok () w:=by
 cases u with
 | agg xs =>
  cases v with
  | agg ys =>
   obtain ⟨cs,rfl,_⟩:=hx.aggAt;obtain ⟨ds,rfl,_⟩:=hy.aggAt;simp only [eqB,Zh,Bool.not_eq_true'] at hb;exact run_eqGuard_agg w op t x y cs ds hb.1.2
  | _=>simp [eqD,scal] at h
 | v c =>
  cases v with
  | v c' =>
   cases hx;cases hy;simp only [eqD,scal] at h;split at h<;>simp_all [eqGuard]
  | _=>simp [eqD,scal] at h
 | _=>cases v<;>simp [eqD,scal] at h
theorem eqFieldsS_run (d:Nat) {cs ds:Array Value}:∀(fs:List Field) (k:Nat) (xs ys:List D) (r:Bool),eqFieldsS P fs k xs=true→eqL xs ys=some r→(∀(j:Nat) x,xs[j]? = some x→∃c,cs[k+j]? = some c∧RD Z w x c)→(∀(j:Nat) x,ys[j]? = some x→∃c,ds[k+j]? = some c∧RD Z w x c) →
 (Op.eqFields (d+2) cs ds fs).run P w = .ok r w:=by
 intro fs;induction fs with
 | nil =>
  intro k xs ys r h he _ _;cases xs with
  | nil =>
   cases ys with
   | nil=>simp [eqL] at he;subst he;simp [Op.eqFields]
   | cons=>simp [eqL] at he
  | cons=>simp [eqFieldsS] at h
 | cons f fs ih =>
  intro k xs ys r h he hx hy;unfold eqFieldsS at h;rw [Zh,Zh] at h;obtain ⟨⟨h1,h2⟩,h3⟩:=h;have hoff:f.offset=k:=Z9 h2;have hne:f.name ≠ "_" := by simpa using h1
  split at h3
  ·rename_i gs hu;simp only [Zh] at h3;obtain ⟨⟨⟨⟨⟨g1,g2⟩,g6⟩,g3⟩,g4⟩,g5⟩:=h3;have hfo:P.fieldsOf f.type=gs:=by simp [Program.fieldsOf,hu]
   obtain ⟨i,hi⟩:=Option.isSome_iff_exists.1 g2;have hm:P.cellsOf f.type=gs.size:=Z9 g1;have hle:gs.size≤xs.length:=Zp g3;have hag:(isAgg f.type).run P w = .ok true w:=by unfold isAgg;simp [run_underlying hu]
   have hsz:(sizeOf f.type).run P w = .ok gs.size w:=by
    have:i.size=gs.size:=by rw [←hm];simp [Program.cellsOf,hi]
    simp [sizeOf,typeInfo,hi,this]
   generalize hgm:gs.size=m at *;obtain ⟨a,b,e1,e2,rfl⟩:=eqL_split m he
   have hpart:∀{zs:List D} {es:Array Value},(∀(j:Nat) x,zs[j]? = some x→∃c,es[k+j]? = some c∧RD Z w x c) →
    ∃f':Array Value,(part f.type es f.offset).run P w = .ok (.agg f') w∧∀(j:Nat) x,(zs.take m)[j]? = some x→∃c,f'[0+j]? = some c∧RD Z w x c:=by
    intro zs es hz;refine ⟨es.extract f.offset (f.offset+m),?_,fun j x hj=>?_⟩
    ·unfold part;simp [hag,hsz]
    ·rw [Zr] at hj;split at hj
     ·rename_i hjm;obtain ⟨c,hc,hr⟩:=hz j x hj;refine ⟨c,?_,hr⟩;have hlt:=(ZP.1 hc).1;rw [Array.getElem?_extract,if_pos (by omega),Zw,hoff];exact hc
     ·simp at hj
   obtain ⟨f1,p1,q1⟩:=hpart hx;obtain ⟨f2,p2,q2⟩:=hpart hy
   have hrow:(Op.equalIn (d+2) f.type (.agg f1) (.agg f2)).run P w = .ok a w:=by
    rw [run_equalIn_struct w (d+1) f.type f1 f2 (by rw [hfo];exact hu) (by simpa using g6),hfo];exact eqFields_run d gs.toList 0 _ _ a g4 e1 q1 q2
   have hrest:=ih (k+m) (xs.drop m) (ys.drop m) b g5 e2 (fun j u hu=>by
    rw [ZK] at hu;obtain ⟨c,h5,h6⟩:=hx (m+j) u hu
    exact ⟨c,by rw [show k+m+j=k+(m+j) by omega];exact h5,h6⟩) (fun j u hu=>by
    rw [ZK] at hu;obtain ⟨c,h5,h6⟩:=hy (m+j) u hu
    exact ⟨c,by rw [show k+m+j=k+(m+j) by omega];exact h5,h6⟩)
   simp only [Op.eqFields,if_pos hne,Zy,p1,p2,hrow,Zm];cases a
   ·simp
   ·simpa using hrest
  ·cases xs with
   | nil=>simp at h3
   | cons x xs =>
    cases ys with
    | nil=>simp [eqL] at he
    | cons y ys =>
     simp only [Zh] at h3;obtain ⟨h3,h4⟩:=h3;obtain ⟨a,b,e1,e2,rfl⟩:=eqL_cons he;obtain ⟨c,hc,hrc⟩:=hx 0 x rfl;obtain ⟨c',hc',hrc'⟩:=hy 0 y rfl;have hn:=scalB_notAgg h3 w;have p1:=part_one (P:=P) (w:=w) (cs:=cs) (off:=f.offset) (c:=c) hn (by rw [hoff];simpa using hc);have p2:=part_one (P:=P) (w:=w) (cs:=ds) (off:=f.offset) (c:=c') hn (by rw [hoff];simpa using hc');have hr:=scal_run (d+1) h3 e1 hrc hrc'
     have hrest:=ih (k+1) xs ys b h4 e2 (fun j u hu=>by
      obtain ⟨c,h5,h6⟩:=hx (j+1) u (by simpa using hu)
      exact ⟨c,by rw [show k+1+j=k+(j+1) by omega];exact h5,h6⟩) (fun j u hu=>by
      obtain ⟨c,h5,h6⟩:=hy (j+1) u (by simpa using hu)
      exact ⟨c,by rw [show k+1+j=k+(j+1) by omega];exact h5,h6⟩)
     simp only [Op.eqFields,if_pos hne,Zy,p1,p2,hr,Zm];cases a
     ·simp
     ·simpa using hrest
theorem equal_runS {t:TypeId} {x y:D} {a b:Value} {r:Bool} (hb:nestS P t x=true) (h:eqD x y=some r) (hx:RD Z w x a) (hy:RD Z w y b):(Op.equal t a b).run P w = .ok r w:=by
 unfold nestS at hb;cases x with
 | agg xs =>
  cases y with
  | agg ys =>
   obtain ⟨cs,rfl,hcs⟩:=hx.aggAt;obtain ⟨ds,rfl,hds⟩:=hy.aggAt;simp only [Zh] at hb;obtain ⟨⟨hst,_⟩,hb⟩:=hb;simp only [eqD] at h;show (Op.equalIn 10000 t (.agg cs) (.agg ds)).run P w = .ok r w;split at hb
   ·rename_i fs hu;have hfo:P.fieldsOf t=fs:=by simp [Program.fieldsOf,hu]
    rw [run_equalIn_struct w 9999 t cs ds (by rw [hfo];exact hu) (by simpa using hst),hfo];exact eqFieldsS_run 9997 fs.toList 0 xs ys r hb h (by simpa using hcs) (by simpa using hds)
   ·simp at hb
  | _=>simp [eqD,scal] at h
 | _=>simp at hb
theorem eqGuard_runS {op:BinOp} {t:TypeId} {x y:Operand} {u v:D} {a b:Value} {r:Bool} (hb:nestS P t u=true) (h:eqD u v=some r) (hx:RD Z w u a) (hy:RD Z w v b):(eqGuard op t x y a b).run P w = .ok () w:=by
 unfold nestS at hb;cases u with
 | agg xs =>
  cases v with
  | agg ys =>
   obtain ⟨cs,rfl,_⟩:=hx.aggAt;obtain ⟨ds,rfl,_⟩:=hy.aggAt;simp only [Zh,Bool.not_eq_true'] at hb;exact run_eqGuard_agg w op t x y cs ds hb.1.2
  | _=>simp [eqD,scal] at h
 | _=>simp at hb
theorem equal_run2 {t:TypeId} {x y:D} {a b:Value} {r:Bool} (hb:eqB2 P t x=true) (h:eqD x y=some r) (hx:RD Z w x a) (hy:RD Z w y b):(Op.equal t a b).run P w = .ok r w:=by
 unfold eqB2 at hb;rw [ZY] at hb;rcases hb with hb|hb
 ·exact equal_run hb h hx hy
 rw [ZY] at hb;rcases hb with hb|hb
 case inr=>exact equal_runS hb h hx hy
 unfold nestB at hb;cases x with
 | agg xs =>
  cases y with
  | agg ys =>
   obtain ⟨cs,rfl,hcs⟩:=hx.aggAt;obtain ⟨ds,rfl,hds⟩:=hy.aggAt;simp only [Zh] at hb;obtain ⟨_,hb⟩:=hb;simp only [eqD] at h;show (Op.equalIn 10000 t (.agg cs) (.agg ds)).run P w = .ok r w;split at hb
   ·rename_i n e hu;split at hb
    ·rename_i m s hu2;simp only [Zh] at hb;obtain ⟨⟨⟨⟨⟨h1,h2⟩,h3⟩,h4⟩,h5⟩,h6⟩:=hb;obtain ⟨i,hi⟩:=Option.isSome_iff_exists.1 h3;obtain ⟨i',hi'⟩:=Option.isSome_iff_exists.1 h4;rw [run_equalIn_array w 9999 cs ds hu hi,List.range_eq_range',Z9 h1];exact eqRows_run 9997 hu2 hi' hi (Z9 h1) (Z9 h2) n 0 xs ys r (Z9 h5) h6 h (by simpa using hcs) (by simpa using hds)
    ·simp at hb
   ·simp at hb
  | _=>simp [eqD,scal] at h
 | _=>simp at hb
theorem eqGuard_run2 {op:BinOp} {t:TypeId} {x y:Operand} {u v:D} {a b:Value} {r:Bool} (hb:eqB2 P t u=true) (h:eqD u v=some r) (hx:RD Z w u a) (hy:RD Z w v b):(eqGuard op t x y a b).run P w = .ok () w:=by
 unfold eqB2 at hb;rw [ZY] at hb;rcases hb with hb|hb
 ·exact eqGuard_run hb h hx hy
 rw [ZY] at hb;rcases hb with hb|hb
 case inr=>exact eqGuard_runS hb h hx hy
 unfold nestB at hb;cases u with
 | agg xs =>
  cases v with
  | agg ys =>
   obtain ⟨cs,rfl,_⟩:=hx.aggAt;obtain ⟨ds,rfl,_⟩:=hy.aggAt;simp only [Zh,Bool.not_eq_true'] at hb;exact run_eqGuard_agg w op t x y cs ds hb.1.2
  | _=>simp [eqD,scal] at h
 | _=>simp at hb
end
end Go.Sx
end
section
namespace Go.Sx
open Go
set_option linter.unusedSimpArgs false
set_option linter.unusedVariables false
section
variable {P:Program} {Z:Nat→Prop} {w:World}
theorem RD.litv {v:Value} {c:Value} (h:RD Z w (.v v) c):c=v:=by cases h;rfl
theorem bytes_eq {a b:ByteArray} (h:(a==b)=true):a=b:=by
 rw [beq_toListBytes] at h;have:=eq_of_beq h;rw [ByteArray.toList_eq,ByteArray.toList_eq] at this;exact ByteArray.ext (Array.toList_inj.1 this)
theorem scal_same {x y:D} {a b:Value} (h:scal x y=some true) (hx:RD Z w x a) (hy:RD Z w y b):a=b∧∀n,Instr.sameBits n a b=true:=by
 unfold scal at h;split at h
 ·rename_i k m k' n;split at h
  ·rename_i hs;have:=same_eq hs;subst this;simp at h;subst h;cases hx;cases hy;exact ⟨rfl,fun n=>by cases n<;>simp [Instr.sameBits]⟩
  ·simp at h
 ·simp at h;subst h;cases hx;cases hy;exact ⟨rfl,fun n=>by cases n<;>simp [Instr.sameBits]⟩
 ·simp only [Zf] at h;have:=bytes_eq h;subst this;cases hx;cases hy;exact ⟨rfl,fun n=>by cases n<;>simp [Instr.sameBits,h]⟩
 ·simp at h
theorem eqL_same {cs ds:Array Value}:∀(xs ys:List D) (k:Nat),eqL xs ys=some true→(∀(j:Nat) x,xs[j]? = some x→∃c,cs[k+j]? = some c∧RD Z w x c)→(∀(j:Nat) x,ys[j]? = some x→∃c,ds[k+j]? = some c∧RD Z w x c) →
 ∀j,j<xs.length→∃c,cs[k+j]? = some c∧ds[k+j]? = some c∧∀n,Instr.sameBits n c c=true:=by
 intro xs;induction xs with
 | nil=>intro ys k _ _ _ j h;simp at h
 | cons x xs ih =>
  intro ys k he hx hy j hj;cases ys with
  | nil=>simp [eqL] at he
  | cons y ys =>
   obtain ⟨a,b,e1,e2,e3⟩:=eqL_cons he;have e4:a=true∧b=true:=by cases a<;>cases b<;>simp at e3 ⊢
   obtain ⟨rfl,rfl⟩:=e4;cases j with
   | zero =>
    obtain ⟨c,hc,hr⟩:=hx 0 x rfl;obtain ⟨c',hc',hr'⟩:=hy 0 y rfl;obtain ⟨rfl,hs⟩:=scal_same e1 hr hr';exact ⟨c,hc,hc',hs⟩
   | succ j =>
    obtain ⟨c,h1,h2,h3⟩:=ih ys (k+1) e2 (fun j u hu=>by
     obtain ⟨c,h5,h6⟩:=hx (j+1) u (by simpa using hu)
     exact ⟨c,by rw [show k+1+j=k+(j+1) by omega];exact h5,h6⟩) (fun j u hu=>by
     obtain ⟨c,h5,h6⟩:=hy (j+1) u (by simpa using hu)
     exact ⟨c,by rw [show k+1+j=k+(j+1) by omega];exact h5,h6⟩) j (by simpa using hj)
    exact ⟨c,by rw [show k+(j+1)=k+1+j by omega];exact h1,by rw [show k+(j+1)=k+1+j by omega];exact h2,h3⟩
theorem key_same {x y:D} {a b:Value} (h:eqD x y=some true) (hx:RD Z w x a) (hy:RD Z w y b):a=b∧Instr.sameBits 10000 a b=true:=by
 unfold eqD at h;split at h
 ·rename_i xs ys;cases hx with
  | agg _ cs f hl hf h1 hr =>
   cases hy with
   | agg _ ds g gl gf g1 gr =>
    have hlen:=eqL_len h
    have key:=eqL_same (Z:=Z) (w:=w) (cs:=cs) (ds:=ds) xs ys 0 h (fun j x hx=>⟨f j,by rw [Zw];exact hf j (by have:=(Zb.1 hx).1;omega),hr j x hx⟩)
     (fun j x hx=>⟨g j,by rw [Zw];exact gf j (by have:=(Zb.1 hx).1;omega),gr j x hx⟩)
    have hcd:cs=ds:=by
     apply Array.ext (by omega);intro i h1 h2;obtain ⟨c,k1,k2,_⟩:=key i (by omega);rw [Zw] at k1 k2;have e1:cs[i]? = some cs[i]:=by simp [h1]
     have e2:ds[i]? = some ds[i]:=by simp [h2]
     rw [e1] at k1;rw [e2] at k2;simp at k1 k2;rw [k1,k2]
    subst hcd;refine ⟨rfl,?_⟩;show (cs.size==cs.size&&(cs.toList.zip cs.toList).all fun (x,y)=>Instr.sameBits 9999 x y)=true;simp only [beq_self_eq_true,Bool.true_and,ZB];intro p hp;obtain ⟨i,hi⟩:=Yd.1 hp;rw [List.getElem?_zip_eq_some] at hi;obtain ⟨k1,k2⟩:=hi;have hil:i<xs.length:=by have:=(Zb.1 k1).1;simp at this;omega
    obtain ⟨c,c1,c2,c3⟩:=key i hil;rw [Zw] at c1;rw [Array.getElem?_toList,c1] at k1 k2;simp at k1 k2;rw [←k1,←k2];exact c3 9999
 ·exact ⟨(scal_same h hx hy).1,(scal_same h hx hy).2 10000⟩
theorem findAsking_run {kt:TypeId} {k:D} {c:Value} (hb:eqB P kt k=true) (hk:RD Z w k c):∀(kvs:List (D×D)) (es:List MapEntry) (i:Nat) (r:Option (Nat×D)),lookD k kvs i=some r→es.length=kvs.length →
 (∀(j:Nat) x,kvs[j]? = some x→∃e,es[j]? = some e∧RD Z w x.1 e.key∧RD Z w x.2 e.val) →
 ∃q:Option (Nat×Value),(Instr.findAsking kt c es i).run P w = .ok q w∧(match r,q with
  | none,none=>True
  | some (j,x),some (j',v)=>j'=j∧i≤j∧j-i<es.length∧RD Z w x v∧∃e y,es[j-i]? = some e∧kvs[j-i]? = some (y,x)∧eqD k y=some true∧e.val=v∧RD Z w y e.key
  | _,_=>False):=by
 intro kvs;induction kvs with
 | nil =>
  intro es i r h hl _;cases es with
  | nil=>simp [lookD] at h;subst h;exact ⟨none,by simp [Instr.findAsking],trivial⟩
  | cons=>simp at hl
 | cons p kvs ih =>
  intro es i r h hl hr;cases es with
  | nil=>simp at hl
  | cons e es =>
   obtain ⟨e',he',hk1,hv1⟩:=hr 0 p rfl;simp at he';subst he';unfold lookD at h;split at h
   ·rename_i he;simp at h;subst h;have hrun:=equal_run (P:=P) hb he hk hk1;exact ⟨some (i,e.val),by simp [Instr.findAsking,hrun],rfl,Zx _,by simp,hv1,e,p.1,by simp,by simp,he,rfl,hk1⟩
   ·rename_i he;have hrun:=equal_run (P:=P) hb he hk hk1;obtain ⟨q,h1,h2⟩:=ih es (i+1) r h (by simpa using hl) (fun j x hx=>hr (j+1) x (by simpa using hx));refine ⟨q,by simp [Instr.findAsking,hrun,h1],?_⟩;cases r with
    | none=>cases q with
     | none=>trivial
     | some q=>exact h2.elim
    | some r =>
     cases q with
     | none=>exact h2.elim
     | some q =>
      obtain ⟨g1,g2,g3,g4,e0,y,g5,g6,g7,g8,g9⟩:=h2;have e1:r.1-i=(r.1-(i+1))+1:=by omega
      refine ⟨g1,by omega,by rw [e1];simp;omega,g4,e0,y,by rw [e1];simpa using g5,by rw [e1];simpa using g6,g7,g8,g9⟩
   ·simp at h
theorem findNow_scal {kd:TypeDesc} {kt:TypeId} {k:D} {c:Value} (hkd:P.underlying kt=some kd) (hna:∀xs,k ≠ .agg xs) (hb:scalB P kt k=true) (hk:RD Z w k c):∀(kvs:List (D×D)) (es:List MapEntry) (i:Nat) (r:Option (Nat×D)),lookD k kvs i=some r→es.length=kvs.length →
 (∀(j:Nat) x,kvs[j]? = some x→∃e,es[j]? = some e∧RD Z w x.1 e.key∧RD Z w x.2 e.val) →
 ∃q:Option (Nat×Value),Instr.findNow kd c es i=some q∧(Instr.findAsking kt c es i).run P w = .ok q w:=by
 have hb':eqB P kt k=true:=by cases k<;>first|exact hb|exact absurd rfl (hna _)
 intro kvs;induction kvs with
 | nil =>
  intro es i r h hl _;cases es with
  | nil=>exact ⟨none,rfl,by simp [Instr.findAsking]⟩
  | cons=>simp at hl
 | cons p kvs ih =>
  intro es i r h hl hr;cases es with
  | nil=>simp at hl
  | cons e es =>
   obtain ⟨e',he',hk1,hv1⟩:=hr 0 p rfl;simp at he';subst he';obtain ⟨pk,pv⟩:=p;change RD Z w pk e.key at hk1;change RD Z w pv e.val at hv1
   have hnow:∀b,eqD k pk=some b→Instr.sameNow kd c e.key=some b:=by
    intro b he
    have hs:scal k pk=some b:=by
     unfold eqD at he;split at he
     ·exact absurd rfl (hna _)
     ·exact he
    unfold scal at hs;split at hs
    ·rename_i k1 m k2 n;split at hs
     ·rename_i hsm;have:=same_eq hsm;subst this;simp at hs;subst hs;have e1:=hk.litv;have e2:=hk1.litv;subst e1;unfold scalB at hb;rw [hkd] at hb;split at hb<;>simp_all;simp [Instr.sameNow]
     ·simp at hs
    ·simp at hs;subst hs;have e1:=hk.litv;have e2:=hk1.litv;subst e1;unfold scalB at hb;rw [hkd] at hb;split at hb<;>simp_all;simp [Instr.sameNow]
    ·simp at hs;subst hs;have e1:=hk.litv;have e2:=hk1.litv;subst e1;unfold scalB at hb;rw [hkd] at hb;split at hb<;>simp_all;simp [Instr.sameNow]
    ·simp at hs
   unfold lookD at h;split at h
   ·rename_i he;have hrun:=equal_run (P:=P) hb' he hk hk1;exact ⟨some (i,e.val),by simp [Instr.findNow,hnow _ he],by simp [Instr.findAsking,hrun]⟩
   ·rename_i he;have hrun:=equal_run (P:=P) hb' he hk hk1;obtain ⟨q,h1,h2⟩:=ih es (i+1) r h (by simpa using hl) (fun j x hx=>hr (j+1) x (by simpa using hx));exact ⟨q,by simp [Instr.findNow,hnow _ he,h1],by simp [Instr.findAsking,hrun,h2]⟩
   ·simp at h
theorem findKey_run {kt:TypeId} {k:D} {c:Value} (hb:eqB P kt k=true) (hk:RD Z w k c) {kvs:List (D×D)} {es:List MapEntry} {r:Option (Nat×D)} (h:lookD k kvs 0=some r) (hl:es.length=kvs.length)
 (hr:∀(j:Nat) x,kvs[j]? = some x→∃e,es[j]? = some e∧RD Z w x.1 e.key∧RD Z w x.2 e.val) :
 ∃q:Option (Nat×Value),(Instr.findKey kt c es).run P w = .ok q w∧(match r,q with
  | none,none=>True
  | some (j,x),some (j',v)=>j'=j∧j<es.length∧RD Z w x v∧∃e y,es[j]? = some e∧kvs[j]? = some (y,x)∧eqD k y=some true∧e.val=v∧RD Z w y e.key
  | _,_=>False):=by
 obtain ⟨q,h1,h2⟩:=findAsking_run (P:=P) hb hk kvs es 0 r h hl hr;refine ⟨q,?_,?_⟩
 ·have hu:∃kd,P.underlying kt=some kd:=by
   cases k with
   | agg xs =>
    simp only [eqB,Zh] at hb;have:=hb.2;split at this
    ·exact ⟨_,by assumption⟩
    ·exact ⟨_,by assumption⟩
    ·simp at this
   | _ =>
    simp only [eqB,scalB] at hb;split at hb<;>first|exact ⟨_,by assumption⟩|simp at hb
  obtain ⟨kd,hkd⟩:=hu;simp only [Instr.findKey,Zy,run_underlying hkd,Zm];cases k with
  | agg xs =>
   obtain ⟨cs,rfl,_⟩:=hk.aggAt;cases es with
   | nil =>
    simp [Instr.findAsking] at h1;simp [Instr.findNow,h1]
   | cons e es =>
    have:Instr.findNow kd (.agg cs) (e::es) 0=none:=by
     simp only [Instr.findNow];cases kd<;>simp [Instr.sameNow]
    rw [this];exact h1
  | _ =>
   obtain ⟨q',g1,g2⟩:=findNow_scal (P:=P) hkd (by intro xs e;cases e) hb hk kvs es 0 r h hl hr;rw [h1] at g2;simp at g2;subst g2;rw [g1];simp
 ·cases r with
  | none=>cases q with
   | none=>trivial
   | some q=>exact h2.elim
  | some r =>
   cases q with
   | none=>exact h2.elim
   | some q =>
    obtain ⟨g1,g2,g3,g4,e0,y,g5,g6,g7,g8,g9⟩:=h2;exact ⟨g1,by simpa using g3,g4,e0,y,by simpa using g5,by simpa using g6,g7,g8,g9⟩
theorem checkScal (em:Bool) (n:Nat) {t:TypeId} {x:D} {c:Value} (hb:scalB P t x=true) (hx:RD Z w x c):(Instr.checkKey em (n+1) t c).run P w = .ok () w:=by
 unfold scalB at hb;split at hb
 all_goals first
  | (simp at hb;done)
  | (rename_i h;have:=hx.litv;subst this;simp [Instr.checkKey,run_underlying h])
theorem checkKey_at (em:Bool) (d:Nat) {kt:TypeId} {k:D} {c:Value} (hb:eqB P kt k=true) (hk:RD Z w k c):(Instr.checkKey em (d+2) kt c).run P w = .ok () w:=by
 cases k with
 | agg xs =>
  obtain ⟨cs,rfl,hcs⟩:=hk.aggAt;simp only [eqB,Zh] at hb;have hb2:=hb.2;split at hb2
  ·rename_i fs hu;rw [show d+2=(d+1)+1 from rfl,Instr.checkKey];simp only [Zy,run_underlying hu,Zm];rw [←Array.forIn_toList]
   have key:∀(l:List Field) (k:Nat) (xs:List D),eqFieldsB P l k xs=true→(∀(j:Nat) x,xs[j]? = some x→∃c,cs[k+j]? = some c∧RD Z w x c) →
    Sem.run P (forIn l PUnit.unit fun f _=>do
     if f.name ≠ "_" then Instr.checkKey em (d+1) f.type (←part f.type cs f.offset)
     pure (ForInStep.yield PUnit.unit)) w = .ok PUnit.unit w:=by
    intro l;induction l with
    | nil=>intro k xs _ _;simp
    | cons f l ih =>
     intro k xs h hx;cases xs with
     | nil=>simp [eqFieldsB] at h
     | cons x xs =>
      simp only [eqFieldsB,Zh] at h;obtain ⟨⟨⟨h1,h2⟩,h3⟩,h4⟩:=h;have hoff:f.offset=k:=by simpa using h2
      obtain ⟨c,hc,hrc⟩:=hx 0 x rfl;have p1:=part_one (P:=P) (w:=w) (cs:=cs) (off:=f.offset) (c:=c) (scalB_notAgg h3 w) (by rw [hoff];simpa using hc);have hne:f.name ≠ "_" := by simpa using h1
      have hck:=checkScal (P:=P) em d h3 hrc
      have hrest:=ih (k+1) xs h4 (fun j u hu=>by
       obtain ⟨c,h5,h6⟩:=hx (j+1) u (by simpa using hu)
       exact ⟨c,by rw [show k+1+j=k+(j+1) by omega];exact h5,h6⟩)
      simp only [List.forIn_cons,Zy,if_pos hne,p1,hck,Zm,ZJ];exact hrest
   have:=key fs.toList 0 xs hb2 (by simpa using hcs)
   first
    | exact this
    | (simp only [this,Zm,ZJ])
  ·rename_i n e hu;simp only [Zh] at hb2;obtain ⟨⟨⟨h1,h2⟩,h3⟩,h4⟩:=hb2;obtain ⟨i,hi⟩:=Option.isSome_iff_exists.1 h2;have hsz:(sizeOf e).run P w = .ok 1 w:=by rw [run_sizeOf w hi];congr 1;simpa using h1
   rw [show d+2=(d+1)+1 from rfl,Instr.checkKey];simp only [Zy,run_underlying hu,Zm];simp only [Std.Legacy.Range.forIn_eq_forIn_range',Std.Legacy.Range.size,Yq,Nat.add_one_sub_one,Nat.div_one];have hn:n=xs.length:=by simpa using (Z9 h3).symm
   subst hn
   have key:∀(xs:List D) (k:Nat),xs.all (scalB P e)=true→(∀(j:Nat) x,xs[j]? = some x→∃c,cs[k+j]? = some c∧RD Z w x c) →
    Sem.run P (forIn (List.range' k xs.length) PUnit.unit fun i _=>do
     Instr.checkKey em (d+1) e (←part e cs (i*(←sizeOf e)))
     pure (ForInStep.yield PUnit.unit)) w = .ok PUnit.unit w:=by
    intro xs;induction xs with
    | nil=>intro k _ _;simp
    | cons x xs ih =>
     intro k h hx;simp only [List.all_cons,Zh] at h;obtain ⟨c,hc,hrc⟩:=hx 0 x rfl;have p1:=part_one (P:=P) (w:=w) (cs:=cs) (off:=k*1) (c:=c) (scalB_notAgg h.1 w) (by rw [Yw];simpa using hc);have hck:=checkScal (P:=P) em d h.1 hrc
     have hrest:=ih (k+1) h.2 (fun j u hu=>by
      obtain ⟨c,h5,h6⟩:=hx (j+1) u (by simpa using hu)
      exact ⟨c,by rw [show k+1+j=k+(j+1) by omega];exact h5,h6⟩)
     rw [ZF,List.range'_succ];simp only [List.forIn_cons,Zy,hsz,p1,hck,Zm,ZJ];exact hrest
   have:=key xs 0 h4 (by simpa using hcs)
   first
    | exact this
    | (simp only [this,Zm,ZJ])
  ·simp at hb2
 | _=>exact checkScal em (d+1) hb hk
theorem checkKey_run (em:Bool) {kt:TypeId} {k:D} {c:Value} (hb:eqB P kt k=true) (hk:RD Z w k c):(Instr.checkKey em 10000 kt c).run P w = .ok () w:=checkKey_at em 9998 hb hk
end
end Go.Sx
end
section
namespace Go.Sx
open Go
set_option linter.unusedSimpArgs false
set_option linter.unusedVariables false
section
variable {P:Program} {tt:Tab} {bs:Bs} {Z:Nat→Prop} {w:World} {o:Oper} {a:Act} {v:V} {ps:List Prop}
theorem src_sound {e:Nat} {x:V} {m:Nat} {src:List D} {c:Value} (hx:RV bs Z w x c) (hs:srcOf e x=some (m,src)) (hl:src.length=m*e) :
 (m=0∧src=[]∧∃ad k,c = .slice ad 0 k)∨∃ad k srcC,c = .slice (some ad) m k∧0<m∧(∀(j:Nat) u,srcC[j]? = some u→w.cell? (ad.add j)=some u)∧RDL Z w src srcC:=by
 unfold srcOf at hs;split at hs
 ·split at hs
  ·rename_i he;simp at he hs;obtain ⟨rfl,rfl⟩:=hs;subst he;cases hx with|d _ _ hx =>
   rename_i cells;cases hx with
   | list0 _ _ ad cap ht=>exact .inl ⟨rfl,rfl,ad,cap,rfl⟩
   | list _ _ _ _ ad cap f hn hl' hz hcap ht hcell h1 hr =>
    refine .inr ⟨ad,cap,(List.range cells.length).map f,rfl,hn,fun j u hu=>?_,by simp,fun j x c hx hc=>?_⟩
    ·have hj:j<cells.length:=by simpa using (Zb.1 hu).1
     simp [hj] at hu;subst hu;exact hcell j hj
    ·have hj:j<cells.length:=(Zb.1 hx).1;simp [hj] at hc;subst hc;exact ⟨h1 j hj,hr j x hx⟩
  ·simp at hs
 ·simp at hs;obtain ⟨rfl,rfl⟩:=hs;exact .inl ⟨rfl,rfl,none,0,hx.lit⟩
 ·simp at hs
theorem run_append_none (w:World) (t ty e:TypeId) (i:TypeInfo) (ht:P.underlying t=some (.slice e)) (hi:P.info? e=some i)
 (b:Option Addr) (sLen sCap:Nat) (ad:Option Addr) (k:Nat) (hroom:sLen≤sCap) :
 (Builtin.append_ #[t,t] ty #[.slice b sLen sCap,.slice ad 0 k]).run P w = .ok (.slice b sLen sCap) w:=by
 cases b<;>cases ad<;>simp [Builtin.append_,run_underlying ht,sizeOf,typeInfo,hi,Builtin.lenOf,hroom,Builtin.firstCells,loadCells,loadCellsFrom,storeCells]
theorem RDL.ofMap {ds:List D} {vs:List V} {cs:List Value} (h:RVL bs Z w vs cs) (e:ds.map .d=vs):RDL Z w ds cs:=by
 subst e;exact h.toD
theorem appendT_sound (hT:Tab.ok P tt) (hzlt:∀b,Z b→b<w.heap.size) {c:Call} {s x:Operand} {t:TypeId} {i:TI} {h:Hint} {vs vx:V} (ho:o.op = .call c) (hc:c.callee = .builtin .append) (ha:c.args.toList=[s,x])
 (hty:c.argTypes.toList=[t,t]) (hi:tt.lookup t=some i) (hS:RV bs Z w vs (a.eval s)) (hX:RV bs Z w vx (a.eval x)) (he:evAppendT tt i h vs vx=some (v,ps)) (hp:∀p∈ps,p):Yields P bs Z w o a v:=by
 obtain ⟨callee,⟨args⟩,⟨tys⟩⟩:=c;simp at ha hty hc;subst ha;subst hty;subst hc
 have hexec:∀(r:Value) (w':World),(Builtin.append_ #[t,t] o.type #[a.eval s,a.eval x]).run P w = .ok r w'→(execOp a.eval o).run P w = .ok (.value r) w':=by
  intro r w' h1;simp [execOp,ho,resolve,invoke,builtin,h1]
 unfold evAppendT at he;split at he
 ·rename_i e n cells;split at he
  ·rename_i el k out m src hk hsrc;simp only [Zi] at he;obtain ⟨it,h1,h2⟩:=he;split at h2
   ·rename_i hcond;simp at hcond;obtain ⟨hse,he0⟩:=hcond;simp at h2;obtain ⟨rfl,rfl⟩:=h2;obtain ⟨rfl,hxl,hsl,hby,hmx,hout⟩:=hp _ (Zq.2 rfl);obtain ⟨d,hu,hd2,_⟩:=(hT t i hi).kind;rw [hk] at hd2;cases hd2;obtain ⟨info,z',g1,g2,g3,g4,g5⟩:=(hT el it h1).info;have hzl:=(hT el it h1).zlen;have hzs:z'.cells.size=e:=by rw [←hse,←hzl,←g5];simp
    have his:info.size=e:=by rw [g2,hse]
    have hxl':cells.length=n*e:=by simpa using hxl
    have hout':out=cells++src:=by
     have:out.map V.d=(cells++src).map V.d:=by rw [hout,YF]
     exact List.map_inj_right (fun a b h=>by injection h) |>.1 this
    have hzlen:∀q,(Builtin.zeroCells z'.cells q).toList.length=q*e:=fun q=>by simp [Builtin.zeroCells,hzs]
    generalize hes:a.eval s=sv at hS hexec;generalize hex:a.eval x=xv at hX hexec

    have goes:∀(olds srcC:List Value) (cap:Nat),0<m→n+m≤cap→RDL Z w cells olds→RDL Z w src srcC→∀(zs:List Value),
     (execOp a.eval o).run P w = .ok (.value (.slice (some ⟨w.heap.size,0,none⟩) (n+m) cap)) (w.drew.alloc (.cells (olds++srcC++zs).toArray el))→Yields P bs Z w o a (.d (.list false e (n+m) out)):=by
     intro olds srcC cap hm0 hcap hO hN zs hrun next Q hn;unfold Oper.wp;rw [hrun]
     have hg:Grow Z w (fun b=>Z b∨b=w.heap.size) (w.drew.alloc (.cells (olds++srcC++zs).toArray el)):=by
      have:=Grow.alloc Z w.drew (.cells (olds++srcC++zs).toArray el);exact ⟨this.os,this.tape,this.output,this.size,this.heap,this.zs,this.znew⟩
     refine hn _ _ _ hg (.d _ _ ?_);have hh:(w.drew.alloc (.cells (olds++srcC++zs).toArray el)).heap[w.heap.size]? = some (.cells (olds++srcC++zs).toArray el (0,0)):=heap_alloc w.drew _;have hol:olds.length=cells.length:=hO.1;have hnl:srcC.length=src.length:=hN.1;have hcat:RVL bs Z w ((cells++src).map V.d) (olds++srcC):=by rw [YF];exact hO.toV.append hN.toV
     have hcd:=hcat.toD;have hlen:out.length=(olds++srcC).length:=by rw [hout'];simp [hol,hnl]
     refine .list false e (n+m) out _ cap (fun j=>(olds++srcC++zs).getD j undef) (by omega) (by rw [hout',ZE,hxl',hsl,ZU]) (.inr rfl) hcap (by simp) (fun j hj=>?_) (fun j hj=>?_) (fun j y hy=>?_)
     ·rw [cell_at hh];have:j<(olds++srcC++zs).length:=by rw [ZE];omega
      simp only [Zw,List.getElem?_toArray,Zv,Zd this,ZL]
     ·have hj2:j<(olds++srcC).length:=by omega
      have hj1:j<(cells++src).length:=by rw [←hout'];exact hj
      have:=(hcd.2 j _ _ (Zd hj1) (Zd hj2)).1;rw [Zv,ZT hj2,Zd hj2];exact this
     ·have hj:j<out.length:=(Zb.1 hy).1;have hj2:j<(olds++srcC).length:=by omega
      rw [hout'] at hy;have:=(hcd.2 j _ _ hy (Zd hj2)).2;rw [Zv,ZT hj2,Zd hj2];exact this.mono hg.zs (fun b hb=>hg.heap b (hzlt b hb))
    rcases src_sound hX hsrc hsl with ⟨rfl,rfl,ad,kk,rfl⟩|⟨ad,kk,srcC,rfl,hm0,hnews,hR⟩
    ·
     rw [Yh] at hout';subst hout';cases hS with|d _ _ hS =>
     cases hS with
     | list0 _ _ b cap ht =>
      have:=ht rfl;subst this;have hrun:=hexec _ _ (run_append_none w t o.type el info hu g1 b 0 0 ad kk (Zx _));exact Yields.val hrun (.d _ _ (.list0 _ _ _ _ (by simp)))
     | list _ _ _ _ b cap f hn hl hz hcap ht hcell ho1 hr =>
      have hrun:=hexec _ _ (run_append_none w t o.type el info hu g1 (some b) n cap ad kk hcap);exact Yields.val hrun (.d _ _ (.list _ _ _ _ b cap f hn hl hz hcap (by simp) hcell ho1 hr))
    ·have hsC:srcC.length=m*info.size:=by rw [hR.1,hsl,his]
     cases hS with|d _ _ hS =>
     cases hS with
     | list0 _ _ b cap ht =>
      have:=ht rfl;subst this;cases b with
      | none =>
       have hrun:=run_append_nil (P:=P) w t o.type el info z' hu g1 g4 ad m kk srcC hsC hnews hm0 (by omega) (by rw [g3];rw [Zw] at hby;omega);have hrun:=hexec _ _ hrun;have hcap:=grownCap_ge w m 0 el;have e4:(srcC.toArray++Builtin.zeroCells z'.cells (grownCap w m 0 el-m))=(([]++srcC++(Builtin.zeroCells z'.cells (grownCap w m 0 el-m)).toList:List Value)).toArray:=by simp
       rw [e4] at hrun;exact goes [] srcC (grownCap w m 0 el) hm0 (by omega) ⟨rfl,fun j x c h=>by simp at h⟩ hR _ (by simpa using hrun)
      | some b =>
       have hrun:=run_append_grow (P:=P) w t o.type el info z' hu g1 g4 b 0 0 [] (by simp) (by simp) ad m kk srcC hsC hnews (by omega) (by omega) (growslice_fits (by omega) (by rw [g3];exact hby));have hrun:=hexec _ _ hrun;have hcap':=grownCap_ge w (0+m) 0 el
       have e4:(([]:List Value).toArray++srcC.toArray++Builtin.zeroCells z'.cells (grownCap w (0+m) 0 el-(0+m)))=(([]++srcC++(Builtin.zeroCells z'.cells (grownCap w (0+m) 0 el-(0+m))).toList:List Value)).toArray:=by
        apply Array.ext';simp
       rw [e4] at hrun;exact goes [] srcC _ hm0 hcap' ⟨rfl,fun j x c h=>by simp at h⟩ hR _ hrun
     | list _ _ _ _ b cap f hn hl hz hcap ht hcell ho1 hr =>
      have hcn:=ht rfl
      have hO:RDL Z w cells ((List.range cells.length).map f):=by
       refine ⟨by simp,fun j x c hx hc=>?_⟩;have hj:j<cells.length:=(Zb.1 hx).1;simp [hj] at hc;subst hc;exact ⟨ho1 j hj,hr j x hx⟩
      have hrun:=run_append_grow (P:=P) w t o.type el info z' hu g1 g4 b n cap ((List.range cells.length).map f) (by simp [hxl',his]) (fun j u hu'=>by
       have hj:j<cells.length:=by have:=(Zb.1 hu').1;simpa using this
       simp [hj] at hu';subst hu';exact hcell j hj) ad m kk srcC hsC hnews (by omega) (by omega) (growslice_fits (by omega) (by rw [g3];exact hby))
      have hrun:=hexec _ _ hrun;have hcap':=grownCap_ge w (n+m) cap el
      have e4:(((List.range cells.length).map f).toArray++srcC.toArray++Builtin.zeroCells z'.cells (grownCap w (n+m) cap el-(n+m)))=(((List.range cells.length).map f++srcC++(Builtin.zeroCells z'.cells (grownCap w (n+m) cap el-(n+m))).toList:List Value)).toArray:=by
       apply Array.ext';simp
      rw [e4] at hrun;exact goes _ srcC (grownCap w (n+m) cap el) hm0 hcap' hO hR _ hrun
   ·simp at h2
  ·simp at he
 ·simp at he
end
end Go.Sx
end
section
namespace Go.Sx
open Go
set_option linter.unusedSimpArgs false
set_option linter.unusedVariables false
section ifc
variable {P:Program} {tt:Tab} {bs:Bs} {Z:Nat→Prop} {w:World} {o:Oper} {a:Act} {v:V} {ps:List Prop}
theorem run_callFunc {f:FuncId} (h:FnOk P f) (args:Array Value):(callFunc f args).run P w = .ok (.enter f args) w:=by
 obtain ⟨fn,h1,h2,h3⟩:=h;simp at h2;have h4:fn.body≠none:=by intro h;simp [h] at h3
 simp [callFunc,h1,h2,h4]
theorem Yields.enter {f:FuncId} {args:Array Value} (h:(execOp a.eval o).run P w = .ok (.enter f args) w)
 (hc:Calls P f args w (fun e w'=>∃c Z',e = .returned c∧Grow Z w Z' w'∧RV bs Z' w' v c)):Yields P bs Z w o a v:=by
 intro next Q hn;unfold Oper.wp;rw [h];refine Calls.mono hc ?_;rintro e w' ⟨c,Z',rfl,hg,hv⟩;exact hn c w' Z' hg hv
theorem run_zero2 (hT:Tab.ok P tt) {t:TypeId} {i:TI} (h:tt.lookup t=some i) (w:World):∃z,(zeroValue t).run P w = .ok z w∧z.cells.toList=i.zero∧(i.agg=true→z = .agg z.cells)∧(i.agg=false→z.cells = #[z]):=by
 obtain ⟨info,z,h1,h2,h3,h4,h5⟩:=(hT t i h).info;have ha:=(hT t i h).zagg info z h1 h4;refine ⟨z,by simp [zeroValue,typeInfo,h1,h4],h5,fun h=>?_,fun h=>?_⟩
 ·rw [h] at ha;cases z<;>simp [Value.isAgg] at ha ⊢;rfl
 ·rw [h] at ha;cases z<;>simp [Value.isAgg] at ha ⊢ <;> rfl
theorem run_equal_nilIface {t:TypeId} {ms:Array (String×TypeId)} (h:P.underlying t=some (.interface ms)):(Op.equal t .nilIface .nilIface).run P w = .ok true w:=by
 show (Op.equalIn (9999+1) t .nilIface .nilIface).run P w=_;generalize 9999=d;simp [Op.equalIn,run_underlying h]
theorem run_equal_iface_nil {t:TypeId} {ms:Array (String×TypeId)} (h:P.underlying t=some (.interface ms)) (u:TypeId) (x:Value):(Op.equal t (.iface u x) .nilIface).run P w = .ok false w:=by
 show (Op.equalIn (9999+1) t (.iface u x) .nilIface).run P w=_;generalize 9999=d;simp [Op.equalIn,run_underlying h]
theorem ifc_sound {op:BinOp} {t u:TypeId} {x y:Operand} {vx:V} (ho:o.op = .binOp op t x y u) (hx:RV bs Z w vx (a.eval x)) (he:evIfc P op t vx y=some (v,ps)):Yields P bs Z w o a v:=by
 unfold evIfc at he;split at he
 ·split at he
  ·rename_i ms hu;cases hx with|d _ _ hx =>
   have hy:a.eval (.const .nilIface) = .nilIface:=rfl;generalize hc:a.eval x=c at hx;cases hx with
   | ifo0 =>
    have h1:=run_equal_nilIface (w:=w) hu;split at he
    ·simp at he;obtain ⟨rfl,rfl⟩:=he;exact Yields.val (by simp [execOp,ho,hc,hy,eqGuard_nil_constR,binOp,h1]) (RV.mkb _)
    ·simp at he;obtain ⟨rfl,rfl⟩:=he;exact Yields.val (by simp [execOp,ho,hc,hy,eqGuard_nil_constR,binOp,h1]) (RV.mkb _)
    ·simp at he
   | ifo k _ z hz =>
    have h1:=run_equal_iface_nil (w:=w) hu k z;split at he
    ·simp at he;obtain ⟨rfl,rfl⟩:=he;exact Yields.val (by simp [execOp,ho,hc,hy,eqGuard,binOp,h1]) (RV.mkb _)
    ·simp at he;obtain ⟨rfl,rfl⟩:=he;exact Yields.val (by simp [execOp,ho,hc,hy,eqGuard,binOp,h1]) (RV.mkb _)
    ·simp at he
  ·simp at he
 ·split at he
  ·rename_i ms hu;have h1:=run_equal_nilIface (w:=w) hu;have hx':=hx.lit;have hy:a.eval (.const .nilIface) = .nilIface:=rfl;split at he
   ·simp at he;obtain ⟨rfl,rfl⟩:=he;exact Yields.val (by simp [execOp,ho,hx',hy,eqGuard_nil_constR,binOp,h1]) (RV.mkb _)
   ·simp at he;obtain ⟨rfl,rfl⟩:=he;exact Yields.val (by simp [execOp,ho,hx',hy,eqGuard_nil_constR,binOp,h1]) (RV.mkb _)
   ·simp at he
  ·simp at he
 ·simp at he
theorem concB_struct {t:TypeId} (h:concB P t=true):∃fs,P.underlying t=some (.struct fs):=by
 unfold concB at h;split at h
 ·rename_i fs hu;exact ⟨fs,hu⟩
 ·simp at h
theorem ifm_sound {t:TypeId} {x:Operand} {vx:V} (ho:o.op = .makeInterface t x) (hx:RV bs Z w vx (a.eval x)) (he:evIfM P t vx=some (v,ps)):Yields P bs Z w o a v:=by
 unfold evIfM at he;split at he
 ·split at he
  ·rename_i hc;obtain ⟨fs,hu⟩:=concB_struct hc;simp at he;obtain ⟨rfl,rfl⟩:=he;cases hx with|d _ _ hx =>
   exact Yields.val (by simp [execOp,ho,run_makeInterface w t (a.eval x) (P:=P) (by simp [Program.concrete,hu])]) (.d _ _ (.ifo t _ _ hx))
  ·simp at he
 ·simp at he
theorem RV.pair {x y:V} {c d:Value} (h:RV bs Z w x c) (h':RV bs Z w y d):RV bs Z w (.tup [x,y]) (.tuple #[c,d]):=by
 refine .tup _ _ (fun j=>if j=0 then c else d) (by simp) (fun j hj=>?_) (fun j u hu=>?_)
 ·match j with
  | 0=>rfl
  | 1=>rfl
  | j+2=>simp at hj;omega
 ·match j with
  | 0=>simp at hu;subst hu;exact h
  | 1=>simp at hu;subst hu;exact h'
  | j+2=>simp at hu
theorem assert_sound (hT:Tab.ok P tt) {t0 t:TypeId} {x:Operand} {vx:V} {i:TI} (hi:tt.lookup t=some i) (ho:o.op = .typeAssert x t0 t true) (hx:RV bs Z w vx (a.eval x)) (he:evAssert P t vx=some (v,ps)):Yields P bs Z w o a v:=by
 unfold evAssert at he;split at he
 ·split at he
  ·rename_i hc;obtain ⟨fs,hu⟩:=concB_struct hc;simp at he;obtain ⟨rfl,rfl⟩:=he;obtain ⟨z,hz,_⟩:=run_zero2 hT hi w;cases hx with|d _ _ hx =>
   generalize hcx:a.eval x=c at hx;cases hx with
   | ifo0 =>
    exact Yields.val (c := .tuple #[z,.bool false]) (by simp [execOp,ho,hcx,Instr.typeAssert,run_underlying hu,hz]) (RV.pair (.top _) (RV.mkb _))
   | ifo k _ c hx =>
    by_cases hk:k=t
    ·subst hk;exact Yields.val (c := .tuple #[c,.bool true]) (by simp [execOp,ho,hcx,Instr.typeAssert,run_underlying hu]) (RV.pair (.top _) (by simpa using RV.mkb _))
    ·refine Yields.val (c := .tuple #[z,.bool false]) (by simp [execOp,ho,hcx,Instr.typeAssert,run_underlying hu,hk,hz]) (RV.pair (.top _) ?_);rw [show ((some k==some t):Bool)=false by simpa using hk];exact RV.mkb _
  ·simp at he
 ·simp at he
theorem method_run {t:TypeId} {name:String} {f:FuncId} (h:invF P t name=some f) (x:Value) (n:Nat):(method (n+1) t x name).run P w = .ok (f,x) w:=by
 unfold invF at h;split at h
 ·rename_i i hi hc;obtain ⟨fs,hu⟩:=concB_struct hc;split at h
  ·rename_i m hm;split at h
   ·rename_i hp hf;simp at h;subst h;simp [method,typeInfo,hi,hm,hp,hf,follow,receiverAt,run_underlying hu,Place.get]
   ·simp at h
  ·simp at h
 ·simp at h
theorem inv_sound {c:Call} {x:Operand} {get:Operand→V} {name:String} {h:Hint} (hz:∀b,Z b→b<w.heap.size) (hlay:Lay Z w) (ho:o.op = .call c) (hc:c.callee = .invoke x name) (hx:RV bs Z w (get x) (a.eval x)) (ha:∀y∈c.args,RV bs Z w (get y) (a.eval y))
 (he:evInv P h name (get x) (c.args.toList.map get)=some (v,ps)) (hp:∀p∈ps,p):Yields P bs Z w o a v:=by
 unfold evInv at he;split at he
 ·rename_i ot xd hg;split at he
  ·rename_i ar r ds hall;simp only [Zf,Ze] at he;obtain ⟨rfl,rfl⟩:=he;obtain ⟨t,f,rfl,hf,hpc⟩:=hp _ (Zq.2 rfl);rw [hg] at hx;cases hx with|d _ _ hx =>
   generalize hcx:a.eval x=cx at hx;cases hx with|ifo _ _ k hk =>
   have hm:=method_run (w:=w) hf k (P.types.size+Made.depth-1)
   have hrun:(execOp a.eval o).run P w = .ok (.enter f (#[k]++c.args.map a.eval)) w:=by
    rw [show P.types.size+Made.depth-1+1=P.types.size+Made.depth by unfold Made.depth;omega] at hm;have he0:(#[Value.iface t k]++Array.map a.eval c.args)[0]? = some (.iface t k):=by rw [Ye];simp
    simp only [execOp,ho,resolve,hc,hcx,pure_bind];simp [invoke,he0,callMethod,hm,run_callFunc hpc.ok];rw [show c.args.size=(Array.map a.eval c.args).size by simp,Array.extract_size]
   refine Yields.enter hrun ?_;have hmap:=allD_map hall;refine (hpc.run Z w _ hz hlay ?_ ?_).mono ?_
   ·have:=congrArg List.length hmap;simp at this;simp [this];omega
   ·intro j y d hy hd;cases j with
    | zero=>rw [Ye] at hd;simp at hy hd;subst hy;subst hd;exact hk
    | succ j =>
     simp at hy;have:(c.args.toList.map get)[j]? = some (.d y):=by rw [hmap];simp [hy]
     obtain ⟨k',hk',hr⟩:=map_get ha j _ this
     have hd':(c.args.map a.eval)[j]? = some d:=by
      rw [Ye] at hd;simpa using hd
     rw [hd'] at hk';simp at hk';subst hk';cases hr with|d _ _ h=>exact h
   ·rintro e w' ⟨k,Z',he,hg,hr⟩;exact ⟨k,Z',he,hg,hr.mono (fun i o h=>by simp at h) (fun _ h=>h) (fun _ _=>rfl)⟩
  ·simp at he
 ·simp at he
end ifc
end Go.Sx
end
section
namespace Go.Sx
open Go
set_option linter.unusedSimpArgs false
set_option linter.unusedVariables false
section call
variable {P:Program} {tt:Tab} {bs:Bs} {Z:Nat→Prop} {w:World} {o:Oper} {a:Act} {v:V} {ps:List Prop}
theorem run_enter {c:Call} {x:Operand} {f:FuncId} (ho:o.op = .call c) (hc:c.callee = .value x) (hx:a.eval x = .func (.func f) #[] #[]) (hf:FnOk P f) :
 (execOp a.eval o).run P w = .ok (.enter f (c.args.map a.eval)) w:=by
 simp [execOp,ho,resolve,hc,hx,Deferred.ofValue,invoke,run_callFunc hf]
theorem RV.func {f:Fn} {c:Value} (h:RV bs Z w (.fn f [] []) c):c = .func f #[] #[]:=by
 cases h with
 | fn _ _ _ fs cs g k hl hl' hf hk hr hr' =>
  have e1:fs = #[]:=Yt (by simpa using hl);have e2:cs = #[]:=Yt (by simpa using hl');rw [e1,e2]
theorem flat_D {x:D} {c:Value} {Z':Nat→Prop} {w':World} (h:RD Z w x c) (hf:x.flat=true):RD Z' w' x c:=by
 cases h<;>simp [D.flat] at hf;exact .v _ (by assumption)
theorem flat_V {x:V} {c:Value} {bs':Bs} {Z':Nat→Prop} {w':World} (h:RV bs Z w x c) (hf:x.flat=true):RV bs' Z' w' x c:=by
 cases h with
 | d x c h =>
  cases h with
  | v x hx=>exact .d _ _ (.v _ hx)
  | agg cells cs f hl hf' h1 hr =>
   refine .d _ _ (.agg cells cs f hl hf' h1 (fun j y hy=>?_));simp [V.flat] at hf;exact flat_D (hr j y hy) (hf y (ZG hy))
  | _=>simp [V.flat] at hf
 | _=>simp [V.flat] at hf
theorem flat_R {x:V} {c:Value} {bs':Bs} {Z':Nat→Prop} {w':World} (h:RV bs Z w x c) (hf:flatR x=true):RV bs' Z' w' x c:=by
 cases h with
 | tup vs cs f hl hf' hr =>
  simp [flatR] at hf;exact .tup vs cs f hl hf' (fun j y hy=>flat_V (hr j y hy) (hf y (ZG hy)))
 | top c=>simp [flatR,V.flat] at hf
 | d x c h=>exact flat_V (bs:=bs) (.d x c h) hf
 | ref=>simp [flatR,V.flat] at hf
 | sl=>simp [flatR,V.flat] at hf
 | sl0=>simp [flatR,V.flat] at hf
 | rop=>simp [flatR,V.flat] at hf
 | mp=>simp [flatR,V.flat] at hf
 | yld=>simp [flatR,V.flat] at hf
 | fn=>simp [flatR,V.flat] at hf
 | agg=>simp [flatR,V.flat] at hf
 | when=>simp [flatR,V.flat] at hf
def Zl (Z:Nat→Prop) (bs:Bs) (b:Nat):Prop:=Z b∨∃k,some (b,k)∈bs
theorem RD.lent {x:D} {c:Value} (h:RD Z w x c) (bs:Bs):RD (Zl Z bs) w x c:=h.mono (fun _ h => .inl h) (fun _ _=>rfl)
theorem argOk_sound {Γ:Ctx} {H:List O} (hW:InvW Γ H bs Z w) {x:V} {y:D} {c:Value} (h:RV bs Z w x c) (hk:argOk H x y):RD (Zl Z bs) w y c:=by
 unfold argOk at hk;split at hk
 ·subst hk;cases h with|d _ _ h=>exact h.lent bs
 ·subst hk;cases h with
  | fn _ _ _ fs cs gg k hl hl' hf hk0 hr hr' =>
   have e1:fs = #[]:=Yt (by simpa using hl);have e2:cs = #[]:=Yt (by simpa using hl');subst e1;subst e2;exact .v _ rfl
 ·rename_i e' id off n e m ds;obtain ⟨rfl,rfl,hl,xs,hH,ht,hle⟩:=hk;cases h with
  | sl0 _ _ hb =>
   have:ds=[]:=ZO (by simpa using hl);subst this;exact .list0 _ _ _ _ (by simp)
  | sl _ _ _ _ b k cap hb hcap =>
   obtain ⟨cs,ty,g1,g2,_,g3⟩:=hW.row hH hb;have g4:=(g3.drop off).take (m*e');rw [ht] at g4;have g5:=g4.toD;by_cases h0:m=0
   ·subst h0;have:ds=[]:=ZO (by simpa using hl);subst this;exact .list0 _ _ _ _ (by simp)
   ·have hlen:(((cs.toList.take xs.length).drop off).take (m*e')).length=m*e':=by rw [g5.1,hl]
    refine .list false e' m ds _ cap (fun j=>(((cs.toList.take xs.length).drop off).take (m*e')).getD j undef) (by omega) hl (.inr ⟨k,ZG hb⟩) hcap (by simp) (fun j hj=>?_) (fun j hj=>?_) (fun j z hz=>?_)
    ·rw [cell_at g1];have hj':j<m*e':=by omega
     have:(((cs.toList.take xs.length).drop off).take (m*e'))[j]? = cs[off+j]? := by
      rw [Zr,if_pos hj',ZK,Zr,if_pos (by omega)];simp
     rw [Zv,this];simp [show off+j<cs.size by omega]
    ·have hj':j<(((cs.toList.take xs.length).drop off).take (m*e')).length:=by omega
     have:=(g5.2 j ds[j] _ (Zd hj) (Zd hj')).1
     rwa [Zv,Zd hj']
    ·have hj:j<ds.length:=(Zb.1 hz).1;have hj':j<(((cs.toList.take xs.length).drop off).take (m*e')).length:=by omega
     have:=(g5.2 j z _ hz (Zd hj')).2;rw [Zv,Zd hj'];exact this.lent bs
 ·exact hk.elim
theorem argsOk_at {H:List O}:∀{vs:List V} {ds:List D},argsOk H vs ds→vs.length=ds.length∧∀(j:Nat) v d,vs[j]? = some v→ds[j]? = some d→argOk H v d:=by
 intro vs;induction vs with
 | nil=>intro ds h;cases ds with
  | nil=>exact ⟨rfl,fun j v d h=>by simp at h⟩
  | cons=>exact h.elim
 | cons v vs ih =>
  intro ds h;cases ds with
  | nil=>exact h.elim
  | cons d ds =>
   obtain ⟨h1,h2⟩:=ih h.2;refine ⟨by simp [h1],fun j v' d' hv hd=>?_⟩;cases j with
   | zero=>simp at hv hd;subst hv;subst hd;exact h.1
   | succ j=>simp at hv hd;exact h2 j _ _ hv hd
theorem call_sound {Γ:Ctx} {H:List O} (hW:InvW Γ H bs Z w) {c:Call} {x:Operand} {get:Operand→V} {h:Hint} (ho:o.op = .call c) (hc:c.callee = .value x) (hx:RV bs Z w (get x) (a.eval x))
 (ha:∀y∈c.args,RV bs Z w (get y) (a.eval y)) (he:evCall P h H (get x) (c.args.toList.map get)=some (v,ps)) (hp:∀p∈ps,p):Yields P bs Z w o a v:=by
 unfold evCall at he;split at he
 ·rename_i f ds r hfn;rw [hfn] at hx;have ef:=hx.func;split at he
  ·rename_i ds' hall;simp only [Zf,Ze] at he;obtain ⟨rfl,rfl⟩:=he;have hpc:PCall P f ds' r:=hp _ (Zq.2 rfl);refine Yields.enter (run_enter ho hc ef hpc.ok) ?_;have hmap:=allD_map hall;refine (hpc.run Z w (c.args.map a.eval) hW.zlt hW.lay ?_ ?_).mono ?_
   ·have:=congrArg List.length hmap;simpa using this
   ·intro j y k hy hk;have:(c.args.toList.map get)[j]? = some (.d y):=by rw [hmap];simp [hy]
    obtain ⟨k',hk',hr⟩:=map_get ha j _ this;rw [hk] at hk';simp at hk';subst hk';cases hr with|d _ _ h=>exact h
   ·rintro e w' ⟨k,Z',he,hg,hr⟩;exact ⟨k,Z',he,hg,hr.mono (fun i o h=>by simp at h) (fun _ h=>h) (fun _ _=>rfl)⟩
  ·split at he
   ·rename_i hflat;simp only [Zf,Ze] at he;obtain ⟨rfl,rfl⟩:=he;have hao:argsOk H (c.args.toList.map get) ds:=hp _ (by simp);have hpc:PCall P f ds r:=hp _ (by simp);obtain ⟨hlen,hat⟩:=argsOk_at hao;refine Yields.enter (run_enter ho hc ef hpc.ok) ?_;refine (hpc.run (Zl Z bs) w (c.args.map a.eval) ?_ (hW.lay.mono (fun _ h => .inl h) fun _ _=>rfl) ?_ ?_).mono ?_
    ·intro b hb;rcases hb with hb|hb
     ·exact hW.zlt b hb
     ·obtain ⟨k,hb⟩:=hb;obtain ⟨j,hj⟩:=Yd.1 hb;exact hW.lt j b k hj
    ·simpa using hlen
    ·intro j y k hy hk;have hj:j<(c.args.toList.map get).length:=by rw [hlen];exact (Zb.1 hy).1
     obtain ⟨k',hk',hr⟩:=map_get ha j _ (Zd hj);rw [hk] at hk';simp at hk';subst hk';exact argOk_sound hW hr (hat j _ y (Zd hj) hy)
    ·rintro e w' ⟨k,Z',he,hg,hr⟩;refine ⟨k,fun b=>Z b∨(w.heap.size≤b∧b<w'.heap.size),he,⟨hg.os,hg.tape,hg.output,hg.size,hg.heap,fun b h => .inl h,fun b h=>h⟩,flat_R hr hflat⟩
   ·simp at he
 ·rename_i f first cap ds r _ hfn
  split at he
  ·rename_i ds' hall;simp only [Zf,Ze] at he;obtain ⟨rfl,rfl⟩:=he;have hpc:PCall P f ds' r:=hp _ (Zq.2 rfl);rw [hfn] at hx;generalize hfv:a.eval x=fv at hx;cases hx with
   | fn _ _ _ fs cs g k hl hl' hf hk hr hr' =>
    have hrun:(execOp a.eval o).run P w = .ok (.enter f (fs++c.args.map a.eval++cs)) w:=by
     simp [execOp,ho,resolve,hc,hfv,Deferred.ofValue,invoke,run_callFunc hpc.ok]
    refine Yields.enter hrun ?_;have hmap:=allD_map hall;refine (hpc.run Z w _ hW.zlt hW.lay ?_ ?_).mono ?_
    ·have:=congrArg List.length hmap;simp at this;simp [hl,hl'];omega
    ·intro j y d hy hd;have hv:(first++c.args.toList.map get++cap)[j]? = some (.d y):=by rw [hmap];simp [hy]
     have hrv:RV bs Z w (.d y) d:=by
      simp only [Yi,ZA,Zg] at hv;rw [Ye,Ye] at hd;simp only [Array.size_append,Array.size_map] at hd;split at hv
      ·rename_i h1;rw [if_pos (by omega),if_pos (by omega),hf j (by omega)] at hd;simp at hd;subst hd;exact hr j _ hv
      ·rename_i h1;split at hv
       ·rename_i h2;have h2':j-first.length<c.args.size:=by simpa using h2
        rw [if_pos (by omega),if_neg (by omega),hl] at hd;obtain ⟨k',hk',hr2⟩:=map_get ha _ _ hv;rw [hd] at hk';simp at hk';subst hk';exact hr2
       ·rename_i h2;have h2':¬j-first.length<c.args.size:=by simpa using h2
        rw [if_neg (by omega)] at hd;have e:j-(fs.size+c.args.size)=j-first.length-c.args.toList.length:=by rw [hl];simp;omega
        rw [e] at hd;have hlt:=(Zb.1 hv).1;rw [hk _ (by omega)] at hd;simp at hd;subst hd;exact hr' _ _ hv
     cases hrv with|d _ _ h=>exact h
    ·rintro e w' ⟨k,Z',he,hg,hr⟩;exact ⟨k,Z',he,hg,hr.mono (fun i o h=>by simp at h) (fun _ h=>h) (fun _ _=>rfl)⟩
  ·simp at he
 ·simp at he
theorem eq_goal {op:BinOp} {t u:TypeId} {x y:Operand} {dx dy:D} (ho:o.op = .binOp op t x y u) (hx:RD Z w dx (a.eval x)) (hy:RD Z w dy (a.eval y)) (r:Bool) (hb:eqB2 P t dx=true) (hr:eqD dx dy=some r):(op = .eql→Yields P bs Z w o a (vb r))∧(op = .neq→Yields P bs Z w o a (vb (!r))):=by
 have h1:=equal_run2 (P:=P) hb hr hx hy;have h2:=eqGuard_run2 (P:=P) (op:=op) (x:=x) (y:=y) hb hr hx hy
 have hnp:∀(k:IntKind) (m:Int) (k':IntKind) (n:Int),a.eval x = .int k m→a.eval y = .int k' n→k=k'∧r=(m==n):=by
  intro k m k' n e1 e2;rw [e1] at hx;rw [e2] at hy;cases hx with
  | v =>
   cases hy with
   | v =>
    simp only [eqD,scal] at hr;split at hr
    ·rename_i hs;exact ⟨same_eq hs,by simpa using hr.symm⟩
    ·simp at hr
   | any=>simp [eqD,scal] at hr
   | nl=>simp [eqD,scal] at hr
  | any=>cases dy<;>simp [eqD,scal] at hr
  | nl=>cases dy<;>simp [eqD,scal] at hr
 have hrun:∀(neg:Bool),op=(if neg then .neq else .eql)→(binOp op t (a.eval x) (a.eval y)).run P w = .ok (.bool (if neg then !r else r)) w:=by
  intro neg hop;by_cases hint:∃k m k' n,a.eval x = .int k m∧a.eval y = .int k' n
  ·obtain ⟨k,m,k',n,e1,e2⟩:=hint;obtain ⟨rfl,rfl⟩:=hnp k m k' n e1 e2;rw [e1,e2];cases neg<;>simp at hop<;>subst hop<;>simp [binOp,Op.intCmp];rfl
  ·generalize a.eval x=cx at *;generalize a.eval y=cy at *;cases hx with
   | agg xs cs f hl hf g1 gr =>
    obtain ⟨ys,rfl⟩:∃ys,dy = .agg ys:=by cases dy<;>simp [eqD,scal] at hr ⊢
    obtain ⟨ds,rfl,_⟩:=hy.aggAt;cases neg<;>simp at hop<;>subst hop
    ·rw [run_eql_struct];show Result.andThen ((Op.equal t (.agg cs) (.agg ds)).run P w) _=_;rw [h1];rfl
    ·rw [run_neq_struct];show Result.andThen ((Op.equal t (.agg cs) (.agg ds)).run P w) _=_;rw [h1];rfl
   | v x hx1 =>
    cases hy with
    | v y hy1 =>
     simp only [eqD,scal] at hr;split at hr
     ·rename_i e1 e2;simp at e1 e2;subst e1;subst e2;exact absurd ⟨_,_,_,_,rfl,rfl⟩ hint
     ·rename_i e1 e2;simp at e1 e2;subst e1;subst e2;simp at hr;subst hr;have h1':=h1;cases neg<;>simp at hop<;>subst hop<;>simp [binOp,h1',Op.stringOp]
     ·rename_i e1 e2;simp at e1 e2;subst e1;subst e2;simp at hr;subst hr;have h1':=h1;cases neg<;>simp at hop<;>subst hop<;>simp [binOp,Op.stringOp]<;>exact (beq_toListBytes _ _).symm
     ·simp at hr
    | _=>simp [eqD,scal] at hr
   | any=>cases dy<;>simp [eqD,scal] at hr
   | list0=>cases dy<;>simp [eqD,scal] at hr
   | list=>cases dy<;>simp [eqD,scal] at hr
   | nl0=>cases dy<;>simp [eqD,scal] at hr
   | nl=>cases dy<;>simp [eqD,scal] at hr
   | optr0=>cases dy<;>simp [eqD,scal] at hr
   | optr=>cases dy<;>simp [eqD,scal] at hr
   | ifo0=>cases dy<;>simp [eqD,scal] at hr
   | ifo=>cases dy<;>simp [eqD,scal] at hr
 refine ⟨fun hop=>?_,fun hop=>?_⟩
 ·have:=hrun false (by simpa using hop);exact Yields.val (by simp [execOp,ho,h2,this]) (RV.mkb _)
 ·have:=hrun true (by simpa using hop);exact Yields.val (by simp [execOp,ho,h2,this]) (RV.mkb _)
theorem ptr_sound {op:BinOp} {t u:TypeId} {x y:Operand} {b:Bool} {p:Option Addr} (ho:o.op = .binOp op t x y u) (hx:a.eval x = .pointer p) (hy:a.eval y = .pointer none) (hb:p.isNone=b)
 (he:evPtr P op t b=some (v,ps)):Yields P bs Z w o a v:=by
 unfold evPtr at he;split at he
 ·rename_i e hu;have hu':P.underlying t=some (.pointer (P.pointee t)):=by simp [Program.pointee,hu]
  have h1:=run_equal_pointer_nil (w:=w) t p hu';split at he
  ·simp at he;obtain ⟨rfl,rfl⟩:=he;exact Yields.val (by simp [execOp,ho,hx,hy,eqGuard,binOp,h1,hb]) (RV.mkb _)
  ·simp at he;obtain ⟨rfl,rfl⟩:=he;exact Yields.val (by simp [execOp,ho,hx,hy,eqGuard,binOp,h1,hb]) (RV.mkb _)
  ·simp at he
 ·simp at he
theorem eq_sound {op:BinOp} {t u:TypeId} {x y:Operand} {vx vy:V} (ho:o.op = .binOp op t x y u) (hx:RV bs Z w vx (a.eval x)) (hy:RV bs Z w vy (a.eval y))
 (he:evEq P op t vx vy=some (v,ps)):Yields P bs Z w o a v:=by
 unfold evEq at he;split at he
 ·generalize hc:a.eval x=c at hx;cases hx;exact ptr_sound ho hc hy.lit rfl he
 ·exact ptr_sound ho hx.lit hy.lit rfl he
 ·generalize hc:a.eval x=c at hx;cases hx with|d _ _ hx =>
  cases hx
  ·exact ptr_sound ho hc hy.lit rfl he
  ·exact ptr_sound ho hc hy.lit rfl he
 ·rename_i dx dy _ _;cases hx with|d _ _ hx =>
  cases hy with|d _ _ hy =>
  have goal:=eq_goal (P:=P) (bs:=bs) ho hx hy;split at he
  ·split at he
   ·rename_i hb;simp only [Zc,Ze] at he;obtain ⟨r,hr,rfl,rfl⟩:=he;exact (goal r (eqB2_of hb) hr).1 rfl
   ·simp at he
  ·split at he
   ·rename_i hb;simp only [Zc,Ze] at he;obtain ⟨r,hr,rfl,rfl⟩:=he;exact (goal r (eqB2_of hb) hr).2 rfl
   ·simp at he
  ·simp at he
 ·simp at he
theorem eqs_sound {op:BinOp} {t u:TypeId} {x y:Operand} {vx vy:V} {b:Bool} (ho:o.op = .binOp op t x y u) (hx:RV bs Z w vx (a.eval x)) (hy:RV bs Z w vy (a.eval y))
 (he:evEqs P op t b vx vy=some (v,ps)) (hp:∀p∈ps,p):Yields P bs Z w o a v:=by
 unfold evEqs at he;split at he
 ·rename_i dx dy;cases hx with|d _ _ hx =>
  cases hy with|d _ _ hy =>
  have goal:=eq_goal (P:=P) (bs:=bs) ho hx hy;split at he
  ·simp only [Zf,Ze] at he;obtain ⟨rfl,rfl⟩:=he;exact (goal b (hp _ (by simp)) (hp _ (by simp))).1 rfl
  ·simp only [Zf,Ze] at he;obtain ⟨rfl,rfl⟩:=he;exact (goal b (hp _ (by simp)) (hp _ (by simp))).2 rfl
  ·simp at he
 ·simp at he
theorem look_sound (hT:Tab.ok P tt) {Γ:Ctx} {H:List O} (hW:InvW Γ H bs Z w) {t:TypeId} {x k:Operand} {ok:Bool} {vx vk:V} {i:TI} {h:Hint} (ho:o.op = .lookup t x k ok) (hi:tt.lookup t=some i) (hx:RV bs Z w vx (a.eval x)) (hk:RV bs Z w vk (a.eval k))
 (he:evLook P tt i h H ok vx vk=some (v,ps)) (hp:∀p∈ps,p):Yields P bs Z w o a v:=by
 unfold evLook at he;split at he
 ·rename_i id kd;cases hk with|d _ _ hk =>
  generalize hfx:a.eval x=fx at hx;cases hx with|mp _ b q hb =>
  split at he
  ·rename_i kvs kt et xd bb hH hkind;simp only [Zi] at he;obtain ⟨ie,hie,z,hz,he⟩:=he;split at he
   ·rename_i hbk;simp only [Zf,Ze] at he;obtain ⟨rfl,rfl⟩:=he;have hbk:=eqB_of hbk hp;obtain ⟨r,h1,h2,h3⟩:=hp _ (Yb ..);obtain ⟨d,g1,g2,_⟩:=(hT t i hi).kind;rw [hkind] at g2;have g2:d = .map kt et:=g2;subst g2;obtain ⟨es,q',k1,k2,k3⟩:=hW.objs id _ _ hH hb;have hget:(getObj b).run P w = .ok (.map es q') w:=by simp [getObj,Sem.run,k1]
    have hck:=checkKey_run (P:=P) es.isEmpty hbk hk
    obtain ⟨qv,f1,f2⟩:=findKey_run (P:=P) (es:=es.toList) hbk hk h1 (by simpa using k2) (fun j y hy=>by
     obtain ⟨e,e1,e2,e3⟩:=k3 j y hy
     exact ⟨e,by simpa using e1,e2,e3⟩)
    have hres:∃c,(execOp a.eval o).run P w = .ok (.value (if ok then .tuple #[c,.bool bb] else c)) w∧RD Z w xd c:=by
     cases r with
     | none =>
      cases qv with
      | some q=>exact f2.elim
      | none =>
       have hbb:bb=false:=by
        cases bb
        ·rfl
        ·simp at h2
       subst hbb;obtain ⟨z',z1,z2,z3,z4⟩:=run_zero2 hT hie w;have hzr:=zero_rel hT (bs:=[]) (Z:=Z) (w:=w) hie z' z2;refine ⟨z',?_,?_⟩
       ·simp only [execOp,ho,Instr.lookup,Zy,run_underlying g1,hfx,hget,Zm,hck,f1,z1,ZJ]
        try (cases ok<;>rfl)
       ·rw [h3 rfl]
        have hzd:RDL Z w (ie.zero.map .v) z'.cells.toList:=by
         have:(ie.zero.map fun z=>V.d (.v z))=(ie.zero.map D.v).map V.d:=by simp
         rw [this] at hzr;exact hzr.toD
        unfold mkD at hz;split at hz
        ·rename_i hagg;simp at hz;subst hz;have:=RD.ofL hzd;rw [z3 hagg];simpa using this
        ·rename_i hagg;have hz1:=z4 (by simpa using hagg);split at hz
         ·rename_i y hy;simp at hz;subst hz;rw [hy,hz1] at hzd;exact (hzd.2 0 y z' rfl (by simp)).2
         ·simp at hz
     | some r =>
      cases qv with
      | none=>exact f2.elim
      | some q =>
       obtain ⟨f3,f4,f5,e,y,f6,f7,f8,f9,f10⟩:=f2
       have hbb:bb=true∧r.2=xd:=by
        cases bb
        ·simp at h2
        ·simp at h2;exact ⟨rfl,h2⟩
       obtain ⟨rfl,rfl⟩:=hbb;refine ⟨q.2,?_,f5⟩;simp only [execOp,ho,Instr.lookup,Zy,run_underlying g1,hfx,hget,Zm,hck,f1,ZJ]
       try (cases ok<;>rfl)
    obtain ⟨c,hrun,hrd⟩:=hres;cases ok with
    | false=>exact Yields.val hrun (.d _ _ hrd)
    | true =>
     refine Yields.val hrun (.tup _ _ (fun j=>if j=0 then c else .bool bb) rfl (fun j hj=>?_) (fun j y hy=>?_))
     ·have:j=0∨j=1:=by simp at hj;omega
      rcases this with rfl|rfl<;>rfl
     ·have:j=0∨j=1:=by have:=(Zb.1 hy).1;simp at this;omega
      rcases this with rfl|rfl
      ·simp at hy;subst hy;exact .d _ _ hrd
      ·simp at hy;subst hy;exact RV.mkb _
   ·simp at he
  ·simp at he
 ·simp at he
theorem len_sound {Γ:Ctx} {H:List O} (hW:InvW Γ H bs Z w) (hT:Tab.ok P tt) {c:Call} {x:Operand} {vx:V} (ho:o.op = .call c) (hc:c.callee = .builtin .len) (ha:c.args.toList=[x]) (hx:RV bs Z w vx (a.eval x))
 {t:TypeId} {rest:List TypeId} (hty:c.argTypes.toList=t::rest) {i:TI} (hi:tt.lookup t=some i) (hk:lenKind i.kind vx=true)
 (he:evLen H vx=some (v,ps)):Yields P bs Z w o a v:=by
 have hty':c.argTypes[0]? = some t:=by
  have:c.argTypes.toList[0]? = some t:=by rw [hty];rfl
  simpa using this
 have go:∀m:Nat,(∀tt',(Builtin.len_ c.argTypes tt' #[a.eval x]).run P w = .ok (goInt m) w)→v=vi m→Yields P bs Z w o a v:=by
  intro m h1 h2;subst h2;exact Yields.val (run_len ho hc ha h1) (RV.mki _ _)
 obtain ⟨d,g1,g2,g3⟩:=(hT t i hi).kind;unfold evLen at he;generalize hv:a.eval x=c' at hx;split at he
 ·rename_i tg e n cells;simp only [Zf,Ze] at he;obtain ⟨rfl,rfl⟩:=he;cases hx with|d _ _ hx =>
  cases hik:i.kind<;>simp [hik,lenKind] at hk;rw [hik] at g2;cases g2;cases hx with
  | list0 _ _ ad cap h=>exact go 0 (fun tt'=>by simp [Builtin.len_,hty',run_underlying g1,hv]) rfl
  | list _ _ _ _ ad cap f=>exact go n (fun tt'=>by simp [Builtin.len_,hty',run_underlying g1,hv]) rfl
 ·rename_i e n cells;simp only [Zf,Ze] at he;obtain ⟨rfl,rfl⟩:=he;cases hx with|d _ _ hx =>
  cases hik:i.kind<;>simp [hik,lenKind] at hk;rw [hik] at g2;cases g2;cases hx with
  | nl0=>exact go 0 (fun tt'=>by simp [Builtin.len_,hty',run_underlying g1,hv]) rfl
  | nl _ _ _ _ _ hx =>
   cases hx with
   | list0 _ _ ad cap h=>exact go 0 (fun tt'=>by simp [Builtin.len_,hty',run_underlying g1,hv]) rfl
   | list _ _ _ _ ad cap f=>exact go n (fun tt'=>by simp [Builtin.len_,hty',run_underlying g1,hv]) rfl
 ·rename_i id off n;simp only [Zf,Ze] at he;obtain ⟨rfl,rfl⟩:=he;cases hik:i.kind<;>simp [hik,lenKind] at hk;rw [hik] at g2;cases g2;cases hx with
  | sl0=>exact go 0 (fun tt'=>by simp [Builtin.len_,hty',run_underlying g1,hv]) rfl
  | sl=>exact go n (fun tt'=>by simp [Builtin.len_,hty',run_underlying g1,hv]) rfl
 ·simp only [Zf,Ze] at he;obtain ⟨rfl,rfl⟩:=he;have:=hx.lit;subst this;cases hik:i.kind<;>simp [hik,lenKind] at hk;rw [hik] at g2;cases g2;exact go 0 (fun tt'=>by simp [Builtin.len_,hty',run_underlying g1,hv]) rfl
 ·simp only [Zf,Ze] at he;obtain ⟨rfl,rfl⟩:=he;have:=hx.lit;subst this;cases hik:i.kind<;>simp [hik,lenKind] at hk;rw [hik] at g2;cases g2;exact go _ (fun tt'=>by simp [Builtin.len_,hty',run_underlying g1,hv]) rfl
 ·rename_i id;split at he
  ·rename_i kvs hH;simp only [Zf,Ze] at he;obtain ⟨rfl,rfl⟩:=he;cases hik:i.kind<;>simp [hik,lenKind] at hk;rw [hik] at g2;cases g2;cases hx with|mp _ b k hb =>
   obtain ⟨es,q,h1,h2,_⟩:=hW.objs id _ _ hH hb;refine go kvs.length (fun tt'=>?_) rfl;have hget:(getObj b).run P w = .ok (.map es q) w:=by simp [getObj,Sem.run,h1]
   simp [Builtin.len_,hty',run_underlying g1,hv,hget,h2]
  ·simp at he
 ·simp at he
theorem evPure_sound {Γ:Ctx} {H:List O} (hT:Tab.ok P tt) (hW:InvW Γ H bs Z w) {get:Operand→V} {h:Hint} (hget:∀x,RV bs Z w (get x) (a.eval x))
 (he:evPure P tt o h get H=some (v,ps)) (hp:∀p∈ps,p):Yields P bs Z w o a v:=by
 unfold evPure at he;split at he
 ·rename_i x ho;simp at he;obtain ⟨rfl,rfl⟩:=he;exact move_sound (.inl ho) (hget x)
 ·rename_i x ho;simp at he;obtain ⟨rfl,rfl⟩:=he;exact move_sound (.inr ho) (hget x)
 ·rename_i c x y ho;exact pick_sound ho (hget c) (hget x) (hget y) he hp
 ·rename_i t x ho;simp only [Zi] at he;obtain ⟨i,hi,he⟩:=he;exact load_sound hT hW ho (hget x) hi he hp
 ·rename_i s x f ho;simp only [Zi] at he;obtain ⟨i,hi,he⟩:=he;exact fieldAddr_sound hT ho (hget x) hi he
 ·rename_i s x f ho;simp only [Zi] at he;obtain ⟨i,hi,he⟩:=he;exact field_sound hT ho (hget x) hi he
 ·rename_i t x k ho;simp only [Zi] at he;obtain ⟨i,hi,he⟩:=he;exact indexAddr_sound hT ho (hget x) (hget k) hi he hp
 ·rename_i t x k ho;simp only [Zi] at he;obtain ⟨i,hi,he⟩:=he;exact index_sound hT ho (hget x) (hget k) hi he hp
 ·rename_i t x lo hi' ho;simp only [Zi] at he;obtain ⟨i,hi,he⟩:=he;exact slice_sound hT hW ho (hget x) (fun y _=>hget y) (fun y _=>hget y) hi he hp
 ·rename_i t k ho;split at he
  ·rename_i vs hg;simp only [Zc,Ze] at he;obtain ⟨v',hk,rfl,rfl⟩:=he;have:=hget t;rw [hg] at this;exact extract_sound ho this hk
  ·simp at he
 ·rename_i t parts ho;simp only [Zi] at he;obtain ⟨i,hi,⟨v0,ps0⟩,he,hl⟩:=he;have hb:=build_sound hT ho (fun p _=>hget p.2) hi he;unfold laxH at hl;split at hl
  ·rename_i ys xs qs heq;simp only [Zf,Ze] at hl heq;obtain ⟨rfl,rfl⟩:=hl;obtain ⟨rfl,rfl⟩:=heq;intro next Q hn;refine hb next Q fun c w' Z' hg hv=>hn c w' Z' hg ?_;have hle:LeDs xs ys:=hp _ (Yb ..);cases hv with|d _ _ hd=>exact .d _ _ (hd.le (.agg hle))
  ·simp at hl
  ·simp only [Zf,Ze] at hl;obtain ⟨rfl,rfl⟩:=hl;exact hb
 ·rename_i t len parts ho;split at he
  ·simp at he
  ·simp only [Zi,Zc] at he;obtain ⟨i,hi,⟨e,vs⟩,h1,ds,h2,h3⟩:=he;simp at h3;obtain ⟨rfl,rfl⟩:=h3;exact buildSlice_sound hT ho hW.zlt (fun p _=>hget p.2) hi h1 h2 true
  ·simp only [Zi,Zc] at he;obtain ⟨i,hi,⟨e,vs⟩,h1,ds,h2,h3⟩:=he;simp at h3;obtain ⟨rfl,rfl⟩:=h3;exact buildSlice_sound hT ho hW.zlt (fun p _=>hget p.2) hi h1 h2 false
 ·rename_i op t x y u ho;split at he
  ·exact nilcmp_sound hT ho (hget x) (hget y) he hp
  ·exact eqs_sound ho (hget x) (hget y) he hp
  ·split at he
   ·rename_i q hq;simp at he;subst he;exact ifc_sound ho (hget x) hq
   ·unfold evBin2 at he;split at he
    ·rename_i q hq;simp at he;subst he;exact bin_sound ho (hget x) (hget y) hq hp
    ·exact eq_sound ho (hget x) (hget y) he
 ·rename_i t x ho;exact ifm_sound ho (hget x) he
 ·rename_i x t0 t ho;simp only [Zi] at he;obtain ⟨i,hi,he⟩:=he;exact assert_sound hT hi ho (hget x) he
 ·rename_i t x k ok ho;simp only [Zi] at he;obtain ⟨i,hi,he⟩:=he;exact look_sound hT hW ho hi (hget x) (hget k) he hp
 ·rename_i op t x ho;exact un_sound ho (hget x) he
 ·rename_i s t x ho;simp only [Zi] at he;obtain ⟨i',hs,i,hi,he⟩:=he;exact convert_sound hT ho (hget x) hs hi he
 ·rename_i x ho;split at he
  ·rename_i id off hg;simp at he;obtain ⟨rfl,rfl⟩:=he;have:=hget x;rw [hg] at this;exact nilCheck_ref ho this
  ·rename_i cells hg;simp at he;obtain ⟨rfl,rfl⟩:=he;have:=hget x;rw [hg] at this;exact nilCheck_rop ho this
  ·rename_i y hg;split at he
   ·rename_i cs;simp only [Zf,Ze] at he;obtain ⟨rfl,rfl⟩:=he;have hy:y = .optr true cs:=hp _ (by simp);have:=hget x;rw [hg,hy] at this;exact nilCheck_ptr ho this
   ·simp at he
  ·simp at he
 ·rename_i g first captured ho
  simp at he;obtain ⟨rfl,rfl⟩:=he;exact makeFunc_sound ho (fun x _=>hget x) (fun x _=>hget x)
 ·rename_i c ho;split at he
  ·rename_i hc;unfold evLenC at he;split at he
   ·rename_i x t rest ha hty;simp only [Zi] at he;obtain ⟨i,hi,he⟩:=he;split at he
    ·rename_i hk;exact len_sound hW hT ho hc ha (hget x) hty hi hk he
    ·simp at he
   ·simp at he
  ·rename_i hc;split at he
   ·rename_i k x vs hm;simp only [Zc,Ze] at he;obtain ⟨v',hv,rfl,rfl⟩:=he;exact max_sound ho hc (fun y _=>hget y) hm hv
   ·simp at he
  ·rename_i hc;split at he
   ·rename_i k x vs hm;simp only [Zc,Ze] at he;obtain ⟨v',hv,rfl,rfl⟩:=he;exact min_sound ho hc (fun y _=>hget y) hm hv
   ·simp at he
  ·rename_i hc;unfold evAppC at he;split at he
   ·rename_i s x t t' ha hty;split at he
    ·rename_i htt;simp at htt;subst htt;simp only [Zi] at he;obtain ⟨i,hi,he⟩:=he;exact appendT_sound hT hW.zlt ho hc ha hty hi (hget s) (hget x) he hp
    ·simp at he
   ·simp at he
  ·rename_i f hc;exact call_sound hW ho hc (hget f) (fun y _=>hget y) he hp
  ·rename_i x name hc;exact inv_sound hW.zlt hW.lay ho hc (hget x) (fun y _=>hget y) he hp
  ·simp at he
 ·simp at he
theorem getV_sound {N:Nat} {Γ:Ctx} {T:St} (hI:InvT N Γ T bs Z a w) (x:Operand):RV bs Z w (getV T x) (a.eval x):=by
 cases x with
 | tmp t =>
  simp only [getV,Act.eval];cases hl:T.lookup t with
  | none=>exact .top _
  | some v =>
   have:(t,v)∈T:=by
    clear hI;induction T with
    | nil=>simp at hl
    | cons p T ih =>
     obtain ⟨k,u⟩:=p;rw [ZV] at hl;split at hl
     ·rename_i he;simp at he hl;subst he;subst hl;simp
     ·exact Zz _ (ih hl)
   exact (hI.rel t v this).2
 | const v =>
  simp only [getV,Act.eval,constV];split
  ·rename_i h;exact .d _ _ (.v _ h)
  ·exact .top _
 | global g=>exact .top _
 | func f=>exact .fn _ _ _ _ _ (fun _=>undef) (fun _=>undef) rfl rfl (fun j hj=>by simp at hj) (fun j hj=>by simp at hj) (fun j x h=>by simp at h) (fun j x h=>by simp at h)
end call
end Go.Sx
end
section
namespace Go.Sx
open Go
set_option linter.unusedSimpArgs false
set_option linter.unusedVariables false
mutual
def V.only (p:Nat→Bool):V→V
 | .ref id off=>if p id then .ref id off else .top
 | .sl e id off len=>if p id then .sl e id off len else .top
 | .mp id=>if p id then .mp id else .top
 | .yld id=>if p id then .yld id else .top
 | .fn g f c => .fn g (V.onlyL p f) (V.onlyL p c)
 | .agg cs => .agg (V.onlyL p cs)
 | .tup vs => .tup (V.onlyL p vs)
 | .when b x => .when b (V.only p x)
 | .top => .top
 | .d x => .d x
 | .rop cells => .rop cells
def V.onlyL (p:Nat→Bool):List V→List V
 | []=>[]
 | v::vs=>V.only p v::V.onlyL p vs
end
theorem onlyL_eq (p:Nat→Bool) (vs:List V):V.onlyL p vs=vs.map (V.only p):=by
 induction vs with
 | nil=>simp [V.onlyL]
 | cons v vs ih=>simp [V.onlyL,ih]
example:V.only (fun i=>i==3) (.agg [.ref 3 0,.ref 4 0]) = .agg [.ref 3 0,.top]:=rfl
theorem RV.only {bs bs':Bs} {Z:Nat→Prop} {w:World} {v:V} {c:Value} (p:Nat→Bool) (h:RV bs Z w v c) (hb:∀(i:Nat) (o:Option (Nat×Nat)),p i=true→bs[i]? = some o→bs'[i]? = some o) :
 RV bs' Z w (v.only p) c:=by
 induction h with
 | top c=>simp [V.only];exact .top c
 | d x c h=>simp [V.only];exact .d x c h
 | ref id off b k h =>
  simp only [V.only];split
  ·exact .ref id off b k (hb _ _ (by assumption) h)
  ·exact .top _
 | sl e id off len b k cap h hc hk hm =>
  simp only [V.only];split
  ·exact .sl e id off len b k cap (hb _ _ (by assumption) h) hc hk hm
  ·exact .top _
 | sl0 e id h =>
  simp only [V.only];split
  ·exact .sl0 e id (hb _ _ (by assumption) h)
  ·exact .top _
 | rop cells ad f hz hc h1 hr=>simp [V.only];exact .rop cells ad f hz hc h1 hr
 | mp id b k h =>
  simp only [V.only];split
  ·exact .mp id b k (hb _ _ (by assumption) h)
  ·exact .top _
 | yld id b k h =>
  simp only [V.only];split
  ·exact .yld id b k (hb _ _ (by assumption) h)
  ·exact .top _
 | fn g first captured fs cs f k hl hl' hf hk hr hr' ih ih' =>
  simp only [V.only,onlyL_eq];refine .fn g _ _ fs cs f k (by simpa using hl) (by simpa using hl') hf hk (fun j x hx=>?_) (fun j x hx=>?_)
  ·rw [Zj,Zc] at hx;obtain ⟨y,hy,rfl⟩:=hx;exact ih j y hy
  ·rw [Zj,Zc] at hx;obtain ⟨y,hy,rfl⟩:=hx;exact ih' j y hy
 | agg cells cs f hl hf h1 hr ih =>
  simp only [V.only,onlyL_eq];refine .agg _ cs f (by simpa using hl) hf (fun j hj=>h1 j (by simpa using hj)) (fun j x hx=>?_);rw [Zj,Zc] at hx;obtain ⟨y,hy,rfl⟩:=hx;exact ih j y hy
 | tup vs cs f hl hf hr ih =>
  simp only [V.only,onlyL_eq];refine .tup _ cs f (by simpa using hl) hf (fun j x hx=>?_);rw [Zj,Zc] at hx;obtain ⟨y,hy,rfl⟩:=hx;exact ih j y hy
 | when b x c h h' ih=>simp only [V.only];exact .when b _ c ih h'
theorem lenCase (tt:Tab) (H:List O) {get get':Operand→V} (l:List Operand) (tl:List TypeId) (hx:∀x∈l,get x=get' x):evLenC tt H get l tl=evLenC tt H get' l tl:=by
 match l,tl,hx with
 | [],_,_=>rfl
 | [x],[],_=>rfl
 | [x],t::_,hx=>simp only [evLenC,hx x (by simp)]
 | _::_::_,_,_=>rfl
theorem appCase (tt:Tab) (h:Hint) {get get':Operand→V} (l:List Operand) (tl:List TypeId) (hx:∀x∈l,get x=get' x):evAppC tt h get l tl=evAppC tt h get' l tl:=by
 match l,tl,hx with
 | [],_,_=>rfl
 | [_],_,_=>rfl
 | [s,x],[],_=>rfl
 | [s,x],[_],_=>rfl
 | [s,x],[t,t'],hx=>simp only [evAppC,hx s (by simp),hx x (by simp)]
 | [s,x],_::_::_::_,_=>rfl
 | _::_::_::_,_,_=>rfl
theorem evPure_congr {P:Program} {tt:Tab} {o:Oper} {h:Hint} {get get':Operand→V} {H:List O} (hg:∀x∈o.op.operands,get x=get' x):evPure P tt o h get H=evPure P tt o h get' H:=by
 unfold evPure
 have pairs:∀(place) (vs:List V) (ps:List (Nat×Operand)),(∀p∈ps,get p.2=get' p.2)→buildFrom place get vs ps=buildFrom place get' vs ps:=by
  intro place vs ps;induction ps generalizing vs with
  | nil=>intro _;rfl
  | cons p ps ih =>
   intro hp;obtain ⟨i,x⟩:=p;simp only [buildFrom,hp (i,x) (by simp)];simp only [fun vs=>ih vs (fun p h=>hp p (by simp [h]))]
 have rowp:∀(e k:Nat) (ps:List (Nat×Operand)),(∀p∈ps,get p.2=get' p.2)→buildRow e get k ps=buildRow e get' k ps:=by
  intro e k ps;induction ps generalizing k with
  | nil=>intro _;rfl
  | cons p ps ih =>
   intro hp;obtain ⟨i,x⟩:=p;simp only [buildRow,hp (i,x) (by simp)];simp only [fun k=>ih k (fun p h=>hp p (by simp [h]))]
 cases hop:o.op<;>simp only [hop,Op.operands] at hg<;>simp only []
 case move x=>rw [hg x (by simp)]
 case assign x=>rw [hg x (by simp)]
 case pick c x y=>rw [hg c (by simp),hg x (by simp),hg y (by simp)]
 case load t x=>rw [hg x (by simp)]
 case fieldAddr s x f=>rw [hg x (by simp)]
 case field s x f=>rw [hg x (by simp)]
 case indexAddr t x k=>rw [hg x (by simp),hg k (by simp)]
 case index t x k=>rw [hg x (by simp),hg k (by simp)]
 case lookup t x k ok=>rw [hg x (by simp),hg k (by simp)]
 case slice t x lo hi mx =>
  cases mx<;>simp only []
  have e1:lo.map get=lo.map get':=by
   cases lo with
   | none=>rfl
   | some y=>simp [hg y (by simp)]
  have e2:hi.map get=hi.map get':=by
   cases hi with
   | none=>rfl
   | some y=>simp [hg y (by simp)]
  rw [e1,e2,hg x (by simp)]
 case extract t k=>rw [hg t (by simp)]
 case build t parts =>
  have e:∀p∈parts.toList,get p.2=get' p.2:=fun p hp=>hg p.2 (by simp;exact ⟨p.1,by simpa using hp⟩);unfold evBuild;simp only [pairs _ _ _ e]
 case buildSlice t len parts =>
  have e:∀p∈parts.toList,get p.2=get' p.2:=fun p hp=>hg p.2 (by simp;exact ⟨p.1,by simpa using hp⟩);unfold evBuildRow;simp only [rowp _ _ _ e]
 case binOp op t x y u=>rw [hg x (by simp),hg y (by simp)]
 case unOp op t x=>rw [hg x (by simp)]
 case makeInterface t x=>rw [hg x (by simp)]
 case typeAssert x s t ok=>cases ok<;>simp only []<;>rw [hg x (by simp)]
 case convert s t x=>rw [hg x (by simp)]
 case nilCheck x=>rw [hg x (by simp)]
 case makeFunc g first captured =>
  have e1:first.toList.map get=first.toList.map get':=Z6 fun x hx=>hg x (by simp;left;simpa using hx)
  have e2:captured.toList.map get=captured.toList.map get':=Z6 fun x hx=>hg x (by simp;right;simpa using hx);rw [e1,e2]
 case call c =>
  have ea:∀x∈c.args.toList,get x=get' x:=fun x hx=>hg x (by simp [Call.operands];right;simpa using hx);have e:c.args.toList.map get=c.args.toList.map get':=Z6 ea;cases hcal:c.callee with
  | value f =>
   have ef:get f=get' f:=hg f (by simp [Call.operands,hcal]);simp only [e,ef]
  | invoke f name =>
   have ef:get f=get' f:=hg f (by simp [Call.operands,hcal]);simp only [e,ef]
  | builtin b =>
   have h2:=lenCase tt H (get:=get) (get':=get') c.args.toList c.argTypes.toList ea;have h3:=appCase tt h (get:=get) (get':=get') c.args.toList c.argTypes.toList ea;cases b<;>first|rfl|exact h2|exact h3|simp only [e]
mutual

def V.ids:V→List Nat
 | .ref id _=>[id]
 | .sl _ id _ _=>[id]
 | .mp id=>[id]
 | .yld id=>[id]
 | .fn _ a c=>V.idsL a++V.idsL c
 | .agg cs=>V.idsL cs
 | .tup vs=>V.idsL vs
 | .when _ x=>V.ids x
 | .top=>[]
 | .d _=>[]
 | .rop _=>[]
def V.idsL:List V→List Nat
 | []=>[]
 | v::vs=>V.ids v++V.idsL vs
end
mutual
theorem only_ids (p:Nat→Bool):(v:V)→(∀i∈v.ids,p i=true)→v.only p=v
 | .ref id off,h=>by simp [V.only,h id (by simp [V.ids])]
 | .sl e id off n,h=>by simp [V.only,h id (by simp [V.ids])]
 | .mp id,h=>by simp [V.only,h id (by simp [V.ids])]
 | .yld id,h=>by simp [V.only,h id (by simp [V.ids])]
 | .fn g a c,h=>by
  simp only [V.ids,Z4] at h;simp only [V.only];rw [onlyL_ids p a (fun i hi=>h i (.inl hi)),onlyL_ids p c (fun i hi=>h i (.inr hi))]
 | .agg cs,h=>by simp only [V.ids] at h;simp only [V.only];rw [onlyL_ids p cs h]
 | .tup vs,h=>by simp only [V.ids] at h;simp only [V.only];rw [onlyL_ids p vs h]
 | .when b x,h=>by simp only [V.ids] at h;simp only [V.only];rw [only_ids p x h]
 | .top,_=>by simp [V.only]
 | .d _,_=>by simp [V.only]
 | .rop _,_=>by simp [V.only]
theorem onlyL_ids (p:Nat→Bool):(vs:List V)→(∀i∈V.idsL vs,p i=true)→V.onlyL p vs=vs
 | [],_=>by simp [V.onlyL]
 | v::vs,h=>by
  simp only [V.idsL,Z4] at h;simp only [V.onlyL];rw [only_ids p v (fun i hi=>h i (.inl hi)),onlyL_ids p vs (fun i hi=>h i (.inr hi))]
end
end Go.Sx
end
