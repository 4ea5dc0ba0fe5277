/- What a world that fits has in the two blocks that the library reads. -/
import Derived.Test.YtkcgfceihpampaaGreatDoorNA
import Derived.Test.YtkcgfceihpampaaGreatDoorRows
import Derived.Test.YtkcgfceihpampaaGreatDoorX3
import Derived.Shelf.Vars
import Derived.HandedShaped
import Derived.MakeChecks
import Derived.OpenShut
import Derived.LaidMore
namespace Go.Proofs.YtkcgfceihpampaaGreatDoor
open Go Go.ChangeShapes Go.WideShapes Go.ChangeAt Go.RowKit Go.Sx
set_option linter.all false
set_option maxRecDepth 100000

abbrev laid7:List (String×DataW Unit):=Rows.topCarvedRow.laid
theorem laidVars_mem {P:Program} {w:World}:∀{l:List (String×DataW Unit)} {ps:List MemPlace} {n:String} {d:DataW Unit},DataW.LaidVars P w l ps→(n,d)∈l →
 ∃g t cs fuel p,P.globalNamed n=some g∧(P.globals[g]?).map (·.type)=some t∧w.var? P n=some cs∧DataW.trod (fun _=>()) P w 0 (fun _=>true) false fuel t cs.toList=some (d,p):=by
 intro l;induction l with
 | nil=>intro ps n d _ h;simp at h
 | cons x l ih =>
  intro ps n d h hm;obtain ⟨m,e⟩:=x;obtain ⟨g,t,cs,fuel,p,q,h1,h2,h3,h4,h5,_⟩:=h;rcases ZM.1 hm with hm|hm
  ·simp only [Ze] at hm;obtain ⟨rfl,rfl⟩:=hm;exact ⟨g,t,cs,fuel,p,h1,h2,h3,h4⟩
  ·exact ih h5 hm

theorem lay_of {W:World} (hs:W.ShapedOpen Tryz.prog) (hl:laidMetH Tryz.prog laid7 W):Lay (fun b=>b<W.heap.size) W:=by
 have h0:∃m t f,W.heap[0]? = some (.cells #[.int .i64 m] t f):=by
  have hz:((begin Tryz.prog (fun _ _=>0) default).world.heap[0]?).bind Obj.row? = some (#[.int .i64 0],3):=by kernel_rfl
  obtain ⟨cs,hh,hsz,_⟩:=hs.1 0 _ _ (of_decide_eq_true (by kernel_rfl)) hz;obtain ⟨m,hm⟩:=cell_of_shapedOpen_int hs (of_decide_eq_true (by kernel_rfl)) hz rfl (by kernel_rfl) (by kernel_rfl) (show Tryz.prog.underlying 3=some (.int .i64) by kernel_rfl);refine ⟨m,3,(0,0),?_⟩;rw [hh]
  have hc:cs[0]? = some (.int .i64 m):=by
   unfold World.cell? at hm;rw [hh] at hm;simpa using hm
  have:cs = #[.int .i64 m]:=by
   apply Array.ext
   ·simpa using hsz
   ·intro i hi _;have:i=0:=by simp at hsz;omega
    subst this;have:=Array.getElem?_eq_getElem hi;rw [this] at hc;simpa using hc
  rw [this]
 have h1:∃t f,W.heap[1]? = some (.cells layTab t f):=by
  rw [MakeChecks.laidMetH_plain _ _ _ (by kernel_rfl)] at hl;obtain ⟨ps,hv,_⟩:=hl;obtain ⟨g,t,cs,fuel,p,e1,e2,e3,e4⟩:=laidVars_mem (n := "internal/strconv.uint64pow10") (d:=Rows.laid_internal_strconv_uint64pow10) hv (by simp [laid7,Rows.topCarvedRow]);have hg:Tryz.prog.globalNamed "internal/strconv.uint64pow10" = some 1:=by kernel_rfl
  obtain rfl:=Option.some.inj (hg.symm.trans e1);obtain rfl:333=t:=Option.some.inj ((show (Tryz.prog.globals[1]?).map (·.type)=some 333 by kernel_rfl).symm.trans e2)
  have hh:∃tt f,W.heap[1]? = some (.cells cs tt f):=by
   simp only [World.var?,hg,Za] at e3;split at e3
   ·rename_i c a b hc;obtain rfl:=Option.some.inj e3;exact ⟨_,_,hc⟩
   ·simp at e3
  obtain ⟨tt,f,hh⟩:=hh;obtain ⟨xs,m,rfl,hx,hlen,hn,hel⟩:=DataW.trod_array (show Tryz.prog.underlying 333=some (.array 20 249) by kernel_rfl) e4;rw [show Tryz.prog.cellsOf 333=20 by kernel_rfl] at hlen;rw [show Tryz.prog.cellsOf 249=1 by kernel_rfl] at hel;have hL:Rows.laid_internal_strconv_uint64pow10=(DataW.agg ((List.range 20).map fun i=>DataW.lit (.int .u64 ((10^i:Nat):Int))):DataW Unit):=by kernel_rfl
  rw [hL] at hx;simp only [Ze,DataW.agg.injEq] at hx
  have hcs:cs=layTab:=by
   apply Array.ext';apply ZZ;intro i;show cs.toList[i]? = ((List.range 20).map fun i=>Value.int .u64 ((10^i:Nat):Int))[i]?;by_cases hi:i<20
   ·have h:=hel i hi;rw [Yw] at h;obtain ⟨x,hxi⟩:∃x,xs[i]? = some x:=⟨_,Zd (by omega)⟩
    rw [hxi] at h;obtain ⟨n,k1,k2,_⟩:=DataW.trod_int (show Tryz.prog.underlying 249=some (.int .u64) by kernel_rfl) h;have k3:=congrArg (·[i]?) hx.1;simp only [Zj,hxi,Zo,List.getElem?_range hi,k2] at k3;have k4:n=((10^i:Nat):Int):=by simpa using k3.symm
    rw [Zj,List.getElem?_range hi,Zo,←k4];have k5:((cs.toList.drop i).take 1)[0]? = some (.int .u64 n):=by rw [k1];rfl
    rw [Zr,if_pos (by omega),ZK] at k5;simpa using k5
   ·rw [ZC (by omega),ZC (by simp;omega)]
  rw [hcs] at hh;exact ⟨tt,f,hh⟩
 exact ⟨by show 0<W.heap.size;obtain ⟨_,_,h⟩:=h1;have:=(ZP.1 h).1;omega,by show 1<W.heap.size;obtain ⟨_,_,h⟩:=h1;exact (ZP.1 h).1,h0,h1⟩
end Go.Proofs.YtkcgfceihpampaaGreatDoor
namespace Go
variable {H:Type} {enc:TypeId×Value→H}

theorem returnsInHanded_of_change_both {a:Assume} {C:Checked} {os:Os} {f:FuncId} {fn:Func} {s:ChangeSpec} {conds:List PathCond} {apart fresh handsOn again:Bool} {X:World→Array Value→Prop}
 (hX:∀(w w':World) (args:Array Value),w.heap=w'.heap→X w args→X w' args)
 (own:ownKnob C.prog.godebug=none) (started:os.Started) (noInit:C.prog.inits.idxOf? f=none) (hfn:C.prog.funcs[f]? = some fn)
 (witness:∃(w:World) (tape:Tape) (i:Input),w.os=os∧(w.forCall tape i).Shaped C.prog∧i.vars=[]∧Input.okWide C.prog (w.forCall tape i) .any w.heap.size f i ∧
  ((s.pre enc C.prog fn conds apart (w.forCall tape i).memory i.args∧X (w.forCall tape i).memory i.args)∧sizedMet enc C.prog fn (OpenSpec.ofChange s) apart (w.forCall tape i).memory i.args)∧a.holds C.prog (lone (Frame.enter C.prog f i.args .normal) [] (w.forCall tape i)))
 (contract:∀(W:World) (base:Nat) (args:Array Value) (ds gs:List (DataW H)) (before:List MemPlace),
  (∀(j:Nat) t v,fn.params[j]? = some t→args[j]? = some v→Value.okWide C.prog W .any base t v) →
  DataW.Whole enc C.prog fn.params.toList s.vars apart W args.toList ds gs before →
  conds.all (PathCond.test C.prog ⟨fn.params.toList,ds,s.plain.varTypes C.prog,gs⟩)=true →
  (DataW.weightsEach C.prog (fn.params.toList++s.plain.varTypes C.prog) (ds++gs)).all (· ≤ reachBytes)=true →
  W.ShapedOpen C.prog→X W args →
  a.holds C.prog (lone (Frame.enter C.prog f args .normal) [] W) →
  Calls C.prog f args W fun e W'=>∃v,e = .returned v∧s.post enc C.prog fn apart fresh handsOn again W args v W') :
 ReturnsInHanded a C os f .any (fun w args=>(s.pre enc C.prog fn conds apart w args∧X w args)∧sizedMet enc C.prog fn (OpenSpec.ofChange s) apart w args) (s.post enc C.prog fn apart fresh handsOn again):=by
 refine returnsInHanded_of_calls own started noInit witness ?_;intro w tape i _ hsh _ hok hpre hholds;obtain ⟨_,_,_,fn',hfn',_,_,_,_,hval⟩:=hok;have e:fn'=fn:=Option.some.inj (hfn'.symm.trans hfn);subst e;obtain ⟨⟨⟨ds,gs,before,hw,hc⟩,hx⟩,hz⟩:=hpre;have hw':=DataW.Whole.of_heap (w':=w.forCall tape i) (by rfl) hw;refine (contract (w.forCall tape i) w.heap.size i.args ds gs before hval hw' hc (hz.weights hw) hsh (hX _ _ _ (by rfl) hx) hholds).mono fun e W' ⟨v,he,hp⟩=>?_;subst he;exact ChangeSpec.post_blind hp
end Go
