/- What push comes to: a proof whose bound is what the least changes cost. -/
import Derived.Test.YtallnifoeahpiaaRI
namespace Go.Proofs.Ytallnifoeahpiaa
open Go Go.Sx
set_option linter.all false

def loW (c:Cs) (x:List Int) (v:Nat):Int:=(wnt c.Sheets[v]! x[v]!).1
def hiW (c:Cs) (x:List Int) (v:Nat):Int:=(wnt c.Sheets[v]! x[v]!).2
abbrev Z5:List Int:=List.replicate 5 0
theorem z5_get (v:Nat):¬Z5[v]! > 0:=by
 by_cases h:v<5
 ·rw [get_rep h];omega
 ·rw [get_end (by simp;omega)];omega
theorem wnt_bd {c:Cs} (hv:Val c) {x:List Int} {v:Nat} (h:v<c.Sheets.length):loW c x v≤20 ∧ -20≤hiW c x v∧(loW c x v≤hiW c x v):=by
 have hm:=most_ok hv h
 unfold loW hiW wnt
 by_cases h0:c.Sheets[v]!.Most=0
 ·rw [if_pos h0];simp
 ·rw [if_neg h0]
  simp only
  refine ⟨?_,?_,?_⟩
  ·split
   ·omega
   ·split<;>omega
  ·split
   ·omega
   ·split<;>omega
  ·by_cases a:x[v]! = -c.Sheets[v]!.Most
   ·rw [if_pos a];split
    ·omega
    ·split<;>omega
   ·rw [if_neg a]
    by_cases b:x[v]! = c.Sheets[v]!.Most
    ·rw [if_pos b];split<;>omega
    ·rw [if_neg b]
     by_cases d:x[v]! > 0
     ·rw [if_pos d,if_neg (by omega)];omega
     ·rw [if_neg d];split<;>omega
theorem e98 {c:Cs} (hv:Val c) {x:List Int} (hx:P5 c x) (t:Int) (m:List (List Int×Int)) (k:Nat) (g:List Int) (hk:k<c.Sheets.length) (hg:g.length=5):F98 (k:Int) g t c.Sheets c.Edges (wl c) m x=some (decide (g[k]! > loW c x k)):=by
 have hs:=hv.sheets
 have hxl:=hx.len
 have hb:=hx.fe.box k hk
 have hm:=most_ok hv hk
 unfold F98
 rw [need_true (by omega),Option.bind_some,Int.toNat_natCast,Nat.zero_add,Nat.mul_one,get_some (by omega),Option.bind_some,idx_nat hk,Option.bind_some,Option.bind_some,get_some (by omega),Option.bind_some,e97 ⟨hm.2.2.1,hm.2.2.2,hm.1,hm.2.1⟩ hb,Option.bind_some]
 rfl
theorem e99 {c:Cs} (hv:Val c) {x:List Int} (hx:P5 c x) (t:Int) (m:List (List Int×Int)) (k:Nat) (g:List Int) (hk:k<c.Sheets.length) (hg:g.length=5):F99 (k:Int) g t c.Sheets c.Edges (wl c) m x=some (decide (g[k]! > hiW c x k)):=by
 have hs:=hv.sheets
 have hxl:=hx.len
 have hb:=hx.fe.box k hk
 have hm:=most_ok hv hk
 unfold F99
 rw [need_true (by omega),Option.bind_some,Int.toNat_natCast,Nat.zero_add,Nat.mul_one,get_some (by omega),Option.bind_some,idx_nat hk,Option.bind_some,Option.bind_some,get_some (by omega),Option.bind_some,e97 ⟨hm.2.2.1,hm.2.2.2,hm.1,hm.2.1⟩ hb,Option.bind_some]
 rfl
theorem along1 {c:Cs} (hv:Val c) {x:List Int} (hx:P5 c x) (t:Int) (m:List (List Int×Int)) {g p:List Int} (hgood:Good c x g p) {k to:Nat} (hk:30≤k) (hto:to<c.Sheets.length):Dfs c x (loW c x) to g Z5 p (F96 k (to:Int) g t c.Sheets c.Edges (wl c) m x Z5 p):=by
 have hG:=fun k g hk hg=>e98 hv hx t m k g hk hg
 exact dfs (FF:=fun n to_ g s p=>F96 n to_ g t c.Sheets c.Edges (wl c) m x s p) (LL:=fun n to_ k c4=>F96L1 (F96 n) to_ t c.Sheets c.Edges (wl c) m x k c4) (G:=fun k g=>F98 k g t c.Sheets c.Edges (wl c) m x) hv hx hG
  (fun n to_ g s p=>by rw [F96];rfl)
  (@fun n to hto g S p hgd hS hun N ih=>step_loop (FF:=fun n to_ g s p=>F96 n to_ g t c.Sheets c.Edges (wl c) m x s p) (LL:=fun n to_ k c4=>F96L1 (F96 n) to_ t c.Sheets c.Edges (wl c) m x k c4) (G:=fun k g=>F98 k g t c.Sheets c.Edges (wl c) m x) hv hx hG
   (fun n to_ n5 c4=>by
    show F96L1 (F96 n) to_ t c.Sheets c.Edges (wl c) m x (n5+1) c4=_
    rw [F96L1]
    rfl) hto hgd hS hun ih)
  hgood 5 k to Z5 hto (by simp) (z5_get to) (by decide) (by omega)
theorem along2 {c:Cs} (hv:Val c) {x:List Int} (hx:P5 c x) (t:Int) (m:List (List Int×Int)) {g p:List Int} (hgood:Good c x g p) {k to:Nat} (hk:30≤k) (hto:to<c.Sheets.length):Dfs c x (hiW c x) to g Z5 p (F96v1 k (to:Int) g t c.Sheets c.Edges (wl c) m x Z5 p):=by
 have hG:=fun k g hk hg=>e99 hv hx t m k g hk hg
 exact dfs (FF:=fun n to_ g s p=>F96v1 n to_ g t c.Sheets c.Edges (wl c) m x s p) (LL:=fun n to_ k c4=>F96v1L1 (F96v1 n) to_ t c.Sheets c.Edges (wl c) m x k c4) (G:=fun k g=>F99 k g t c.Sheets c.Edges (wl c) m x) hv hx hG
  (fun n to_ g s p=>by rw [F96v1];rfl)
  (@fun n to hto g S p hgd hS hun N ih=>step_loop (FF:=fun n to_ g s p=>F96v1 n to_ g t c.Sheets c.Edges (wl c) m x s p) (LL:=fun n to_ k c4=>F96v1L1 (F96v1 n) to_ t c.Sheets c.Edges (wl c) m x k c4) (G:=fun k g=>F99 k g t c.Sheets c.Edges (wl c) m x) hv hx hG
   (fun n to_ n5 c4=>by
    show F96v1L1 (F96v1 n) to_ t c.Sheets c.Edges (wl c) m x (n5+1) c4=_
    rw [F96v1L1]
    rfl) hto hgd hS hun ih)
  hgood 5 k to Z5 hto (by simp) (z5_get to) (by decide) (by omega)


structure Pq (c:Cs) (x:List Int) (a:Int) (p g S:List Int):Prop where
 pl:p.length=c.Edges.length
 gl:g.length=5
 sl5:S.length=5
 sl:SL c x p
 gv:∀v,v<c.Sheets.length→g[v]! = gv c p v
 gb:∀v:Nat,v<5 → -a≤g[v]! ∧ g[v]! ≤ a
 pb:∀i,i<c.Edges.length → -a≤p[i]! ∧ p[i]! ≤ a
theorem Pq.good {c:Cs} {x:List Int} {a:Int} {p g S:List Int} (h:Pq c x a p g S) (ha:a≤1000):Good c x g p :=
 ⟨h.gl,h.pl,h.sl,fun v hv=>by have:=h.gb v hv;omega,fun i hi=>by have:=h.pb i hi;omega⟩

theorem Pq.more {c:Cs} (hv:Val c) {x:List Int} {a:Int} {p g S:List Int} (h:Pq c x a p g S) (ha:0≤a∧a≤900) {thr:Nat→Int} {to:Nat} (hto:to<c.Sheets.length) {g' p' S':List Int} {k:Nat} (hS':S'.length=5) (hk:SuccOk c x thr to g Z5 p g' p' k) :
 w64 (g'[to]! + 1)=g[to]! + 1∧g'.length=5∧Pq c x (a+1) p' (g'.set to (g[to]! + 1)) S'∧∀v:Nat,v<5→(g'.set to (g[to]! + 1))[v]! = if v=to then g[v]! + 1 else if v=k then g[v]! - 1 else g[v]! := by
 have hs:=hv.sheets
 have hkb:=hk.kb
 have hne:=hk.ne
 have hgl:=h.gl
 have hgt:=h.gb to (by omega)
 have hgk:=h.gb k (by omega)
 have hg':g'[to]! = g[to]! := by rw [hk.gq,get_set (by omega) (by omega),if_neg hne]
 have hgl':g'.length=5:=by rw [hk.gq,List.length_set];exact hgl
 have hget:∀v:Nat,v<5→(g'.set to (g[to]! + 1))[v]! = if v=to then g[v]! + 1 else if v=k then g[v]! - 1 else g[v]! := fun v h5=>by
  rw [get_set (by omega) (by omega)]
  by_cases e:to=v
  ·subst e;rw [if_pos rfl,if_pos rfl]
  ·rw [if_neg e,if_neg (fun e2:v=to=>e e2.symm),hk.gq,get_set (by omega) (by omega)]
   by_cases e3:k=v
   ·subst e3;rw [if_pos rfl]
   ·rw [if_neg e3,if_neg (fun e2:v=k=>e3 e2.symm)]
 refine ⟨by rw [hg'];exact w64_id (by omega) (by omega),hgl',⟨hk.len,by simp [hgl'],hS',hk.sl,fun v hvs=>?_,fun v h5=>?_,fun i hi=>?_⟩,hget⟩
 ·rw [hget v (by omega),hk.gv v hvs,←h.gv v hvs]
  by_cases e:v=to
  ·subst e;rw [if_pos rfl,if_pos rfl,if_neg (fun e2:v=k=>hne e2.symm)];omega
  ·rw [if_neg e,if_neg e]
   by_cases e2:v=k
   ·rw [if_pos e2,if_pos e2];omega
   ·rw [if_neg e2,if_neg e2];omega
 ·have:=h.gb v h5
  rw [hget v h5]
  by_cases e:v=to
  ·rw [if_pos e];omega
  ·rw [if_neg e]
   by_cases e2:v=k
   ·rw [if_pos e2];omega
   ·rw [if_neg e2];omega
 ·have:=h.pb i hi
  rcases hk.ch i hi with h1|⟨h1,_⟩
  ·omega
  ·omega

theorem fail_closed {c:Cs} (hv:Val c) {x g p:List Int} {thr:Nat→Int} {to:Nat} {S':List Int} (h:FailOk c x thr to g Z5 p S'):Closed c x p (fun v=>decide (S'[v]! > 0)):=by
 constructor
 ·intro i hi hA hB
  have hen:=ends hv hi
  have hA':=of_decide_eq_true hA
  have hB':=of_decide_eq_false hB
  have:=fun ha=>hB' (h.cl _ hA' (z5_get _) i c.Edges[i]!.B.toNat hi ha)
  constructor
  ·intro e;exact this (.inl ⟨by omega,by omega,.inl e⟩)
  ·apply Classical.byContradiction
   intro e;exact this (.inl ⟨by omega,by omega,.inr (by omega)⟩)
 ·intro i hi hB hA
  have hen:=ends hv hi
  have hB':=of_decide_eq_true hB
  have hA':=of_decide_eq_false hA
  have:=fun ha=>hA' (h.cl _ hB' (z5_get _) i c.Edges[i]!.A.toNat hi ha)
  constructor
  ·intro e;exact this (.inr ⟨by omega,by omega,.inl e⟩)
  ·apply Classical.byContradiction
   intro e;exact this (.inr ⟨by omega,by omega,.inr (by omega)⟩)


structure P1q (c:Cs) (x:List Int) (i:Nat) (g:List Int):Prop where
 done:∀v,v<c.Sheets.length→v<i→loW c x v≤g[v]!
 low:∀v,v<c.Sheets.length→loW c x v≤g[v]! ∨ 0≤g[v]!
 up:∀v,v<c.Sheets.length→g[v]! ≤ 20
theorem e78L2 {k:Nat} (hk:100≤k) {c:Cs} (hv:Val c) {x:List Int} (hx:Opt c x) (t:Int) (m:List (List Int×Int)) {i:Nat} (hi:i<c.Sheets.length) {q:Int×List Int×List Int×List Int} (hq:q.1=(i:Int)):∀(r f:Nat) (a:Int) (p g S:List Int),(loW c x i-g[i]!).toNat≤r→r<f→0≤a→a+r≤800→Pq c x a p g S→P1q c x i g →
 ∃p' g' S',F78L2 k x t c.Sheets c.Edges (wl c) m q c.Sheets[i]! f (p,g,S)=some (.inr (p',g',S'))∧Pq c x (a+r) p' g' S'∧P1q c x (i+1) g':=by
 have hs:=hv.sheets
 have hxl:=hx.1.len
 have hbox:=hx.1.fe.box i hi
 have hm:=most_ok hv hi
 have hwb:=wnt_bd hv (x:=x) hi
 intro r
 induction r with
 | zero =>
  intro f a p g S hr hf ha ha2 hP h1
  obtain ⟨f,rfl⟩:∃y,f=y+1:=⟨f-1,by omega⟩
  have hgl:=hP.gl
  refine ⟨p,g,S,?_,by simpa using hP,⟨fun v hvs hvi=>?_,h1.low,h1.up⟩⟩
  ·rw [F78L2]
   dsimp only
   rw [hq,need_true (by omega),Option.bind_some,Int.toNat_natCast,Nat.zero_add,Nat.mul_one,get_some (by omega),Option.bind_some,Option.bind_some,get_some (by omega),Option.bind_some,e97 ⟨hm.2.2.1,hm.2.2.2,hm.1,hm.2.1⟩ hbox,Option.bind_some]
   rw [if_neg (by rw [show (⟨(wnt c.Sheets[i]! x[i]!).1,(wnt c.Sheets[i]! x[i]!).2⟩:S_api_Span).Lo=loW c x i from rfl,decide_eq_false (by omega)];simp)]
  ·by_cases e:v=i
   ·subst e;omega
   ·exact h1.done v hvs (by omega)
 | succ r ih =>
  intro f a p g S hr hf ha ha2 hP h1
  obtain ⟨f,rfl⟩:∃y,f=y+1:=⟨f-1,by omega⟩
  have hgl:=hP.gl
  rw [F78L2]
  dsimp only
  rw [hq,need_true (by omega),Option.bind_some,Int.toNat_natCast,Nat.zero_add,Nat.mul_one,get_some (by omega),Option.bind_some,Option.bind_some,get_some (by omega),Option.bind_some,e97 ⟨hm.2.2.1,hm.2.2.2,hm.1,hm.2.1⟩ hbox,Option.bind_some]
  rw [show (⟨(wnt c.Sheets[i]! x[i]!).1,(wnt c.Sheets[i]! x[i]!).2⟩:S_api_Span).Lo=loW c x i from rfl]
  by_cases hlt:g[i]! < loW c x i
  ·rw [if_pos (decide_eq_true hlt),need_true (by simp),Option.bind_some,need_true hP.sl5,Option.bind_some]
   rcases along1 hv hx.1 t m (hP.good (by omega)) (k:=k) (to:=i) (by omega) hi with ⟨S',d1,d2⟩|⟨g',S',p',j,d1,d2,d3⟩
   ·exfalso
    refine too_little hv hx (fail_closed hv d2) hi (decide_eq_true d2.me) (by rw [←hP.gv i hi];exact hlt) (fun v hvs hR hne=>?_) (fun v hvs=>?_)
    ·rw [←hP.gv v hvs]
     exact (d2.le v (of_decide_eq_true hR) (z5_get v) hne).2
    ·rw [←hP.gv v hvs]
     have:=hP.gb v (by omega)
     omega
   ·have hmore:=hP.more hv ⟨ha,by omega⟩ hi d2 d3
    rw [show F96 k (i:Int) g t c.Sheets c.Edges (wl c) m x (List.replicate 5 0) p=_ from d1,Option.bind_some]
    simp only [Bool.not_true,Bool.false_eq_true,if_false]
    have hg'l:=hmore.2.1
    rw [Option.bind_some,get_some (by omega),Option.bind_some,Option.bind_some,Option.bind_some,hmore.1]
    have hjb:=d3.kb
    have hne:=d3.ne
    have htq:=d3.tq
    obtain ⟨p2,g2,S2,b1,b2,b3⟩:=ih f (a+1) p' (g'.set i (g[i]! + 1)) S' (by rw [hmore.2.2.2 i (by omega),if_pos rfl];omega) (by omega) (by omega) (by omega) hmore.2.2.1 ⟨fun v hvs hvi=>by
     have:=h1.done v hvs hvi
     rw [hmore.2.2.2 v (by omega),if_neg (by omega)]
     by_cases e:v=j
     ·subst e;rw [if_pos rfl];omega
     ·rw [if_neg e];exact this,fun v hvs=>by
     have:=h1.low v hvs
     rw [hmore.2.2.2 v (by omega)]
     by_cases e0:v=i
     ·subst e0;rw [if_pos rfl];omega
     ·rw [if_neg e0]
      by_cases e:v=j
      ·subst e;rw [if_pos rfl];omega
      ·rw [if_neg e];exact this,fun v hvs=>by
     have:=h1.up v hvs
     rw [hmore.2.2.2 v (by omega)]
     by_cases e0:v=i
     ·subst e0;rw [if_pos rfl];omega
     ·rw [if_neg e0]
      by_cases e:v=j
      ·rw [if_pos e];omega
      ·rw [if_neg e];exact this⟩
    exact ⟨p2,g2,S2,b1,by rw [show a+((r+1:Nat):Int)=a+1+(r:Int) by omega];exact b2,b3⟩
  ·rw [if_neg (by rw [decide_eq_false hlt];simp)]
   refine ⟨p,g,S,rfl,⟨hP.pl,hP.gl,hP.sl5,hP.sl,hP.gv,fun v h5=>by have:=hP.gb v h5;omega,fun j hj=>by have:=hP.pb j hj;omega⟩,⟨fun v hvs hvi=>?_,h1.low,h1.up⟩⟩
   by_cases e:v=i
   ·subst e;omega
   ·exact h1.done v hvs (by omega)
theorem e78L1 {k:Nat} (hk:100≤k) {c:Cs} (hv:Val c) {x:List Int} (hx:Opt c x) (t:Int) (m:List (List Int×Int)):∀(r i f:Nat) (a:Int) (p g S:List Int),r+i=c.Sheets.length→r<f→0≤a→a≤20*i→Pq c x a p g S→P1q c x i g →
 ∃p' g' S',F78L1 k x t c.Sheets c.Edges (wl c) m f ((i:Int),p,g,S)=some (.inr (p',g',S'))∧Pq c x 100 p' g' S'∧P1q c x c.Sheets.length g':=by
 have hs:=hv.sheets
 intro r
 induction r with
 | zero =>
  intro i f a p g S hr hf ha ha2 hP h1
  obtain ⟨f,rfl⟩:∃y,f=y+1:=⟨f-1,by omega⟩
  refine ⟨p,g,S,?_,⟨hP.pl,hP.gl,hP.sl5,hP.sl,hP.gv,fun v h5=>by have:=hP.gb v h5;omega,fun j hj=>by have:=hP.pb j hj;omega⟩,by rw [show c.Sheets.length=i by omega];exact h1⟩
  rw [F78L1]
  dsimp only
  rw [if_neg (by simp;omega)]
 | succ r ih =>
  intro i f a p g S hr hf ha ha2 hP h1
  obtain ⟨f,rfl⟩:∃y,f=y+1:=⟨f-1,by omega⟩
  have hi:i<c.Sheets.length:=by omega
  have hwb:=wnt_bd hv (x:=x) hi
  have hlow:=h1.low i hi
  obtain ⟨p',g',S',b1,b2,b3⟩:=e78L2 hk hv hx t m hi (q:=((i:Int),p,g,S)) rfl 20 k a p g S (by omega) (by omega) ha (by omega) hP h1
  rw [F78L1]
  dsimp only
  rw [if_pos (by simp;omega),idx_nat hi,Option.bind_some,b1,Option.bind_some,outK_inr,w64_id (n:=(i:Int)+1) (by omega) (by omega)]
  exact ih (i+1) f (a+(20:Nat)) p' g' S' (by omega) (by omega) (by omega) (by omega) b2 b3


def exc (c:Cs) (x g:List Int):Int:=sumN c.Sheets.length fun v=>if g[v]! > hiW c x v then g[v]! - hiW c x v else 0
theorem exc_nonneg {c:Cs} {x g:List Int}:0≤exc c x g:=by
 have:sumN c.Sheets.length (fun _=>0)≤exc c x g:=sumN_le fun v _=>by split<;>omega
 rw [sumN_zero fun _ _=>rfl] at this
 exact this
structure P2q (c:Cs) (x g:List Int):Prop where
 low:∀v,v<c.Sheets.length→loW c x v≤g[v]!
theorem e78L4 {k:Nat} (hk:100≤k) {c:Cs} (hv:Val c) {x:List Int} (hx:Opt c x) (t:Int) (m:List (List Int×Int)):∀(r i f:Nat) (a:Int) (b:Bool) (p g S:List Int),r+i=c.Sheets.length→r<f→0≤a→a+exc c x g≤800→Pq c x a p g S→P2q c x g →
 ∃b' p' g' S',F78L4 k x t c.Sheets c.Edges (wl c) m f (b,(i:Int),p,g,S)=some (.inr (b',p',g',S'))∧Pq c x (a+exc c x g-exc c x g') p' g' S'∧P2q c x g'∧exc c x g'≤exc c x g∧(b'=true→b=true∨exc c x g'<exc c x g) ∧
  (b'=false→b=false∧p'=p∧g'=g∧∀j,i≤j→j<c.Sheets.length→hiW c x j≤g[j]! ∨ ∃S',FailOk c x (hiW c x) j g Z5 p S'):=by
 have hs:=hv.sheets
 have hxl:=hx.1.len
 intro r
 induction r with
 | zero =>
  intro i f a b p g S hr hf ha ha2 hP h2
  obtain ⟨f,rfl⟩:∃y,f=y+1:=⟨f-1,by omega⟩
  refine ⟨b,p,g,S,?_,by rw [show a+exc c x g-exc c x g=a by omega];exact hP,h2,Int.le_refl _,fun h => .inl h,fun h=>⟨h,rfl,rfl,fun j h1 h2=>by omega⟩⟩
  rw [F78L4]
  dsimp only
  rw [if_neg (by simp;omega)]
 | succ r ih =>
  intro i f a b p g S hr hf ha ha2 hP h2
  obtain ⟨f,rfl⟩:∃y,f=y+1:=⟨f-1,by omega⟩
  have hi:i<c.Sheets.length:=by omega
  have hbox:=hx.1.fe.box i hi
  have hm:=most_ok hv hi
  have hgl:=hP.gl
  have he0:=exc_nonneg (c:=c) (x:=x) (g:=g)
  rw [F78L4]
  dsimp only
  rw [if_pos (by simp;omega),idx_nat hi,Option.bind_some,need_true (by omega),Option.bind_some,Int.toNat_natCast,Nat.zero_add,Nat.mul_one,get_some (by omega),Option.bind_some,Option.bind_some,get_some (by omega),Option.bind_some,e97 ⟨hm.2.2.1,hm.2.2.2,hm.1,hm.2.1⟩ hbox,Option.bind_some,w64_id (n:=(i:Int)+1) (by omega) (by omega)]
  rw [show (⟨(wnt c.Sheets[i]! x[i]!).1,(wnt c.Sheets[i]! x[i]!).2⟩:S_api_Span).Hi=hiW c x i from rfl]
  have hsame:∀(Sx:List Int),Sx.length=5→(hiW c x i≤g[i]! ∨ ∃S',FailOk c x (hiW c x) i g Z5 p S')→∃b' p' g' S',F78L4 k x t c.Sheets c.Edges (wl c) m f (b,(i:Int)+1,p,g,Sx)=some (.inr (b',p',g',S'))∧Pq c x (a+exc c x g-exc c x g') p' g' S'∧P2q c x g'∧exc c x g'≤exc c x g∧(b'=true→b=true∨exc c x g'<exc c x g) ∧
   (b'=false→b=false∧p'=p∧g'=g∧∀j,i≤j→j<c.Sheets.length→hiW c x j≤g[j]! ∨ ∃S',FailOk c x (hiW c x) j g Z5 p S'):=fun Sx hSx hme=>by
   obtain ⟨b',p',g',S',c1,c2,c3,c4,c5,c6⟩:=ih (i+1) f a b p g Sx (by omega) (by omega) ha ha2 ⟨hP.pl,hP.gl,hSx,hP.sl,hP.gv,hP.gb,hP.pb⟩ h2
   refine ⟨b',p',g',S',c1,c2,c3,c4,c5,fun h=>?_⟩
   obtain ⟨d1,d2,d3,d4⟩:=c6 h
   refine ⟨d1,d2,d3,fun j hj hjn=>?_⟩
   by_cases e:j=i
   ·subst e;exact hme
   ·exact d4 j (by omega) hjn
  by_cases hge:g[i]! ≥ hiW c x i
  ·rw [if_pos (decide_eq_true hge)]
   exact hsame S hP.sl5 (.inl hge)
  ·rw [if_neg (by rw [decide_eq_false hge];simp),need_true (by simp),Option.bind_some,need_true hP.sl5,Option.bind_some]
   rcases along2 hv hx.1 t m (hP.good (by omega)) (k:=k) (to:=i) (by omega) hi with ⟨S',d1,d2⟩|⟨g',S',p',j,d1,d2,d3⟩
   ·rw [show F96v1 k (i:Int) g t c.Sheets c.Edges (wl c) m x (List.replicate 5 0) p=_ from d1,Option.bind_some]
    simp only [Bool.false_eq_true,if_false]
    exact hsame S' d2.len (.inr ⟨S',d2⟩)
   ·have hmore:=hP.more hv ⟨ha,by omega⟩ hi d2 d3
    have hjb:=d3.kb
    have hne:=d3.ne
    have htq:=d3.tq
    rw [show F96v1 k (i:Int) g t c.Sheets c.Edges (wl c) m x (List.replicate 5 0) p=_ from d1,Option.bind_some]
    simp only [if_true]
    have hg'l:=hmore.2.1
    rw [Option.bind_some,get_some (by omega),Option.bind_some,Option.bind_some,Option.bind_some,hmore.1]

    have hlt:exc c x (g'.set i (g[i]! + 1))<exc c x g:=by
     refine sumN_lt (fun v hvs=>?_) ⟨j,hjb,?_⟩
     ·rw [hmore.2.2.2 v (by omega)]
      by_cases e0:v=i
      ·subst e0;rw [if_pos rfl,if_neg (by omega)];split<;>omega
      ·rw [if_neg e0]
       by_cases e:v=j
       ·subst e;rw [if_pos rfl,if_pos htq];split<;>omega
       ·rw [if_neg e];exact Int.le_refl _
     ·rw [hmore.2.2.2 j (by omega),if_neg hne,if_pos rfl,if_pos htq];split<;>omega
    have hwb:=wnt_bd hv (x:=x) hjb
    obtain ⟨b',p2,g2,S2,c1,c2,c3,c4,c5,c6⟩:=ih (i+1) f (a+1) true p' (g'.set i (g[i]! + 1)) S' (by omega) (by omega) (by omega) (by omega) hmore.2.2.1 ⟨fun v hvs=>by
     have:=h2.low v hvs
     rw [hmore.2.2.2 v (by omega)]
     by_cases e0:v=i
     ·rw [if_pos e0];omega
     ·rw [if_neg e0]
      by_cases e:v=j
      ·subst e;rw [if_pos rfl];omega
      ·rw [if_neg e];exact this⟩
    refine ⟨b',p2,g2,S2,c1,⟨c2.pl,c2.gl,c2.sl5,c2.sl,c2.gv,fun v h5=>by have:=c2.gb v h5;omega,fun q hq=>by have:=c2.pb q hq;omega⟩,c3,by omega,fun _ => .inr (by omega),fun h=>?_⟩
    have:=(c6 h).1
    simp at this
theorem e78L3 {k:Nat} (hk:100≤k) {c:Cs} (hv:Val c) {x:List Int} (hx:Opt c x) (t:Int) (m:List (List Int×Int)):∀(r f:Nat) (a:Int) (p g S:List Int),(exc c x g).toNat≤r→r+1<f→0≤a→a+exc c x g≤800→Pq c x a p g S→P2q c x g →
 ∃p' g' S',F78L3 k x t c.Sheets c.Edges (wl c) m f (true,p,g,S)=some (.inr (p',g',S'))∧Pq c x 800 p' g' S'∧P2q c x g'∧∀v,v<c.Sheets.length→g'[v]! ≤ hiW c x v:=by
 have hs:=hv.sheets
 intro r
 induction r with
 | zero =>
  intro f a p g S hr hf ha ha2 hP h2
  obtain ⟨f,rfl⟩:∃y,f=y+2:=⟨f-2,by omega⟩
  have he0:=exc_nonneg (c:=c) (x:=x) (g:=g)
  obtain ⟨b',p',g',S',c1,c2,c3,c4,c5,c6⟩:=e78L4 hk hv hx t m c.Sheets.length 0 k a false p g S (by omega) (by omega) ha ha2 hP h2
  have he1:=exc_nonneg (c:=c) (x:=x) (g:=g')
  have hb:b'=false:=by
   cases b' with
   | false=>rfl
   | true =>
    rcases c5 rfl with h|h
    ·simp at h
    ·omega
  subst hb
  rw [F78L3]
  dsimp only
  rw [if_pos rfl,show F78L4 k x t c.Sheets c.Edges (wl c) m k (false,0,p,g,S)=_ from c1,Option.bind_some,outK_inr,F78L3]
  dsimp only
  rw [if_neg (by simp)]
  refine ⟨p',g',S',rfl,⟨c2.pl,c2.gl,c2.sl5,c2.sl,c2.gv,fun v h5=>by have:=c2.gb v h5;omega,fun q hq=>by have:=c2.pb q hq;omega⟩,c3,?_⟩
  intro v hvs
  apply Classical.byContradiction
  intro hgt
  have:sumN c.Sheets.length (fun _=>0)<exc c x g':=sumN_lt (fun u _=>by split<;>omega) ⟨v,hvs,by rw [if_pos (by omega)];omega⟩
  rw [sumN_zero fun _ _=>rfl] at this
  omega
 | succ r ih =>
  intro f a p g S hr hf ha ha2 hP h2
  obtain ⟨f,rfl⟩:∃y,f=y+2:=⟨f-2,by omega⟩
  have he0:=exc_nonneg (c:=c) (x:=x) (g:=g)
  obtain ⟨b',p',g',S',c1,c2,c3,c4,c5,c6⟩:=e78L4 hk hv hx t m c.Sheets.length 0 k a false p g S (by omega) (by omega) ha ha2 hP h2
  have he1:=exc_nonneg (c:=c) (x:=x) (g:=g')
  cases b' with
  | true =>
   have hlt:exc c x g'<exc c x g:=by
    rcases c5 rfl with h|h
    ·simp at h
    ·exact h
   obtain ⟨p2,g2,S2,d1,d2⟩:=ih (f+1) (a+exc c x g-exc c x g') p' g' S' (by omega) (by omega) (by omega) (by omega) c2 c3
   rw [F78L3]
   dsimp only
   rw [if_pos rfl,show F78L4 k x t c.Sheets c.Edges (wl c) m k (false,0,p,g,S)=_ from c1,Option.bind_some,outK_inr]
   exact ⟨p2,g2,S2,d1,d2⟩
  | false =>
   obtain ⟨_,rfl,rfl,d4⟩:=c6 rfl
   rw [F78L3]
   dsimp only
   rw [if_pos rfl,show F78L4 k x t c.Sheets c.Edges (wl c) m k (false,0,p',g',S)=_ from c1,Option.bind_some,outK_inr,F78L3]
   dsimp only
   rw [if_neg (by simp)]
   refine ⟨p',g',S',rfl,⟨c2.pl,c2.gl,c2.sl5,c2.sl,c2.gv,fun v h5=>by have:=c2.gb v h5;omega,fun q hq=>by have:=c2.pb q hq;omega⟩,c3,?_⟩

   let R:Nat→Bool:=fun v=>@decide (∃j S',j<c.Sheets.length∧g'[j]! < hiW c x j∧FailOk c x (hiW c x) j g' Z5 p' S'∧S'[v]! > 0) (Classical.propDecidable _)
   have hR:∀v,R v=true↔∃j S',j<c.Sheets.length∧g'[j]! < hiW c x j∧FailOk c x (hiW c x) j g' Z5 p' S'∧S'[v]! > 0:=fun v=>@decide_eq_true_iff _ (Classical.propDecidable _)
   have hcl:Closed c x p' R:=by
    constructor
    ·intro i hi hA hB
     obtain ⟨j,T,t1,t2,t3,t4⟩:=(hR _).1 hA
     have hn:¬T[c.Edges[i]!.B.toNat]! > 0:=fun h=>by rw [(hR _).2 ⟨j,T,t1,t2,t3,h⟩] at hB;simp at hB
     exact (fail_closed hv t3).a i hi (decide_eq_true t4) (decide_eq_false hn)
    ·intro i hi hB hA
     obtain ⟨j,T,t1,t2,t3,t4⟩:=(hR _).1 hB
     have hn:¬T[c.Edges[i]!.A.toNat]! > 0:=fun h=>by rw [(hR _).2 ⟨j,T,t1,t2,t3,h⟩] at hA;simp at hA
     exact (fail_closed hv t3).b i hi (decide_eq_true t4) (decide_eq_false hn)
   intro v hvs
   apply Classical.byContradiction
   intro hgt
   have hvR:R v=false:=by
    cases hb:R v with
    | false=>rfl
    | true =>
     exfalso
     obtain ⟨j,T,t1,t2,t3,t4⟩:=(hR _).1 hb
     by_cases e:v=j
     ·subst e;omega
     ·have:=(t3.le v t4 (z5_get v) e).2;omega
   refine too_much hv hx hcl hvs hvR (by rw [←c2.gv v hvs];show g'[v]! > hiW c x v;omega) (fun u hus huR=>?_) (fun u hus=>?_)
   ·rw [←c2.gv u hus]
    show hiW c x u≤g'[u]!
    rcases d4 u (by omega) hus with h|⟨T,hT⟩
    ·exact h
    ·apply Classical.byContradiction
     intro hlt
     rw [(hR u).2 ⟨u,T,hus,by omega,hT,hT.me⟩] at huR
     simp at huR
   ·rw [←c2.gv u hus]
    have:=c2.gb u (by omega)
    omega

theorem e78 {k:Nat} (hk:300≤k) {c:Cs} (hv:Val c) {x:List Int} (hx:Opt c x) (t:Int) (m:List (List Int×Int)):∃p,F78 k x t c.Sheets c.Edges (wl c) m (List.replicate c.Edges.length 0)=some p∧p.length=c.Edges.length∧okPr p∧bound c p=cost c x:=by
 have hs:=hv.sheets
 have hz:∀i:Nat,(List.replicate c.Edges.length (0:Int))[i]! = 0:=fun i=>by
  by_cases h:i<c.Edges.length
  ·exact get_rep h
  ·exact get_end (by simp;omega)
 have hz5:∀i:Nat,Z5[i]! = 0:=fun i=>by
  by_cases h:i<5
  ·exact get_rep h
  ·exact get_end (by simp;omega)
 have hP:Pq c x 0 (List.replicate c.Edges.length 0) Z5 Z5:=by
  refine ⟨by simp,by simp,by simp,fun i hi=>?_,fun v hvs=>?_,fun v h5=>by rw [hz5];omega,fun i hi=>by rw [hz];omega⟩
  ·rw [hz];exact ⟨fun h=>by omega,fun h=>by omega⟩
  ·rw [hz5]
   unfold gv gvp
   exact (sumN_zero fun i _=>by rw [hz];simp).symm
 obtain ⟨p1,g1,S1,a1,a2,a3⟩:=e78L1 (k:=k) (by omega) hv hx t m c.Sheets.length 0 k 0 (List.replicate c.Edges.length 0) Z5 Z5 (by omega) (by omega) (by omega) (by omega) hP ⟨fun v _ h=>by omega,fun v _ => .inr (by rw [hz5];omega),fun v _=>by rw [hz5];omega⟩
 have hexc:exc c x g1≤200:=by
  have:∀n,n≤c.Sheets.length→sumN n (fun v=>if g1[v]! > hiW c x v then g1[v]! - hiW c x v else 0)≤40*n:=by
   intro n
   induction n with
   | zero=>intro _;simp [sumN]
   | succ n ih =>
    intro hn
    have h1:=ih (by omega)
    have h2:=wnt_bd hv (x:=x) (show n<c.Sheets.length by omega)
    have h3:=a3.up n (by omega)
    rw [sumN]
    split<;>omega
  have:=this c.Sheets.length (Nat.le_refl _)
  unfold exc
  omega
 have he0:=exc_nonneg (c:=c) (x:=x) (g:=g1)
 obtain ⟨p2,g2,S2,b1,b2,b3,b4⟩:=e78L3 (k:=k) (by omega) hv hx t m 200 k 100 p1 g1 S1 (by omega) (by omega) (by omega) (by omega) a2 ⟨fun v hvs=>a3.done v hvs hvs⟩
 refine ⟨p2,?_,b2.pl,fun v hv'=>?_,strong hv hx.1.fe b2.sl fun v hvs=>?_⟩
 ·unfold F78
  rw [show F78L1 k x t c.Sheets c.Edges (wl c) m k (0,List.replicate c.Edges.length 0,List.replicate 5 0,List.replicate 5 0)=_ from a1,Option.bind_some,outK_inr,b1,Option.bind_some]
  rfl
 ·obtain ⟨i,hi,rfl⟩:=List.getElem_of_mem hv'
  have hpl:=b2.pl
  have:=b2.pb i (by omega)
  rw [getElem!_pos p2 i hi] at this
  omega
 ·rw [←b2.gv v hvs]
  exact ⟨b3.low v hvs,b4 v hvs⟩
end Go.Proofs.Ytallnifoeahpiaa
namespace Go.Proofs.Ytallnifoeahpiaa
open Go Go.Sx
set_option linter.all false


def dear (c:Cs):Int:=sumN c.Sheets.length fun i=>c.Sheets[i]!.Weight*c.Sheets[i]!.Most
theorem wm_bd {c:Cs} (hv:Val c) {i:Nat} (hi:i<c.Sheets.length):0≤c.Sheets[i]!.Weight*c.Sheets[i]!.Most∧c.Sheets[i]!.Weight*c.Sheets[i]!.Most≤120:=by
 have hm:=most_ok hv hi
 have h:=mul_bd (a:=c.Sheets[i]!.Weight) (b:=c.Sheets[i]!.Most) (A:=20) (B:=6) (by omega) (by omega)
 exact ⟨Int.mul_nonneg hm.2.2.1 hm.1,by omega⟩
theorem dears_bd {c:Cs} (hv:Val c):∀n,n≤c.Sheets.length→0≤sumN n (fun i=>c.Sheets[i]!.Weight*c.Sheets[i]!.Most)∧sumN n (fun i=>c.Sheets[i]!.Weight*c.Sheets[i]!.Most)≤120*n:=by
 intro n
 induction n with
 | zero=>intro _;simp [sumN]
 | succ n ih=>intro hn;have h1:=ih (by omega);have h2:=wm_bd hv (i:=n) (by omega);rw [sumN];omega
theorem dear_bd {c:Cs} (hv:Val c):0≤dear c∧dear c≤600:=by
 have:=dears_bd hv c.Sheets.length (Nat.le_refl _)
 have hs:=hv.sheets
 unfold dear
 omega
theorem e40L1 {k:Nat} {c:Cs} (hk:10≤k) (hv:Val c):F40L1 c k (1,0)=some (.inr (1+dear c)):=by
 have hs:=hv.sheets
 have h:=for_fold (l:=c.Sheets) (L:=F40L1 c) (β:=List Int×Int) (σ:=Int) (fun i s=>(s,(i:Int))) (fun s=>s) (fun i x s=>s+c.Sheets[i]!.Weight*c.Sheets[i]!.Most) (fun i s=>s=1+sumN i (fun i=>c.Sheets[i]!.Weight*c.Sheets[i]!.Most))
  (fun i s hi hp=>by rw [hp,sumN];omega)
  (fun n i s hi hp=>by
   have hb:=dears_bd hv i (by omega)
   have hw:=wm_bd hv hi
   rw [F40L1]
   dsimp only
   rw [if_pos (by simp;omega),idx_nat hi,Option.bind_some,w64_id (n:=c.Sheets[i]!.Weight*c.Sheets[i]!.Most) (by omega) (by omega),w64_id (n:=s+_) (by omega) (by omega),w64_id (by omega) (by omega)]
   rfl)
  (fun n s _=>by rw [F40L1,if_neg (by simp)]) k 1 rfl (by omega)
 have h2:=foldI_inv (l:=c.Sheets) (fun i (_:Sh) (s:Int)=>s+c.Sheets[i]!.Weight*c.Sheets[i]!.Most) (fun i s=>s=1+sumN i (fun i=>c.Sheets[i]!.Weight*c.Sheets[i]!.Most)) (fun i s hi hp=>by rw [hp,sumN];omega) 1 rfl
 have h3:F40L1 c k (1,0)=_:=h
 rw [h3,h2]
 rfl

def fE (c:Cs) (i:Nat) (q:Int):Int:=if q>0 then q*lo c i else q*hi c i
theorem cnts_set {c:Cs} {p:List Int} (hl:p.length=c.Edges.length) {i:Nat} (hi:i<c.Edges.length) (y:Int):sumN c.Edges.length (cnt c (p.set i y))=sumN c.Edges.length (cnt c p)+(fE c i y-fE c i p[i]!):=by
 have key:∀e,e≤c.Edges.length→sumN e (cnt c (p.set i y))=sumN e (cnt c p)+(if i<e then fE c i y-fE c i p[i]! else 0):=by
  intro e
  induction e with
  | zero=>intro _;simp [sumN]
  | succ e ih =>
   intro he
   rw [sumN,ih (by omega),sumN]
   have hc:cnt c (p.set i y) e=fE c e (if i=e then y else p[e]!):=by
    unfold cnt fE
    rw [get_set (by omega) (by omega)]
   have hc2:cnt c p e=fE c e p[e]! := rfl
   rw [hc,hc2]
   by_cases e2:i=e
   ·subst e2
    rw [if_neg (show ¬i<i by omega),if_pos rfl,if_pos (show i<i+1 by omega)];omega
   ·rw [if_neg e2]
    by_cases e3:i<e
    ·rw [if_pos e3,if_pos (show i<e+1 by omega)];omega
    ·rw [if_neg e3,if_neg (show ¬i<e+1 by omega)];omega
 have:=key c.Edges.length (Nat.le_refl _)
 rw [if_pos hi] at this
 exact this
theorem fE_down {c:Cs} {i:Nat} (h:lo c i≤hi c i) {q o:Int} (ho:0≤o):fE c i q-o*hi c i≤fE c i (q-o):=by
 have h1:=Int.mul_le_mul_of_nonneg_left h ho
 unfold fE
 by_cases a:q>0
 ·rw [if_pos a]
  have h2:=Int.mul_le_mul_of_nonneg_left h (show 0≤q by omega)
  by_cases b:q-o>0
  ·rw [if_pos b,Int.sub_mul];omega
  ·rw [if_neg b,Int.sub_mul];omega
 ·rw [if_neg a,if_neg (by omega),Int.sub_mul];omega
theorem fE_up {c:Cs} {i:Nat} (h:lo c i≤hi c i) {q o:Int} (ho:0≤o):fE c i q+o*lo c i≤fE c i (q+o):=by
 have h1:=Int.mul_le_mul_of_nonneg_left h ho
 unfold fE
 by_cases a:q>0
 ·rw [if_pos a,if_pos (by omega),Int.add_mul];omega
 ·rw [if_neg a]
  have h2:=Int.mul_le_mul_of_nonpos_left (show q≤0 by omega) h
  by_cases b:q+o>0
  ·rw [if_pos b,Int.add_mul];omega
  ·rw [if_neg b,Int.add_mul];omega
def one (a v:Int):Int:=if a=v then 1 else 0

def eM (rl:List Sp) (k:Nat):Int:=if rl[k]!.edge≥0 then rl[k]!.most else 0
def rM (rl:List Sp) (k:Nat):Int:=if rl[k]!.edge≥0 then 0 else rl[k]!.most
def eD (rl:List Sp) (v:Int) (k:Nat):Int:=if rl[k]!.edge≥0 then one rl[k]!.from_ v-one rl[k]!.to_ v else 0
def rD (rl:List Sp) (v:Int) (k:Nat):Int:=if rl[k]!.edge≥0 then 0 else one rl[k]!.from_ v-one rl[k]!.to_ v
def rT (rl:List Sp) (v:Int) (k:Nat):Int:=if rl[k]!.edge≥0 then 0 else one rl[k]!.from_ v+one rl[k]!.to_ v
structure Cq (c:Cs) (o:Int) (rl:List Sp) (j:Nat) (p:List Int):Prop where
 pl:p.length=c.Edges.length
 pb:∀i,i<c.Edges.length → -(601*(j:Int))≤p[i]! ∧ p[i]! ≤ 601*j
 ct : -(o*sumN j (eM rl))≤sumN c.Edges.length (cnt c p)
 gv:∀v:Nat,v<c.Sheets.length→gv c p v=o*sumN j (eD rl v)
theorem e40L2 {k:Nat} {c:Cs} (hk:200≤k) (hv:Val c) (hsd:∀i,i<c.Edges.length→lo c i≤hi c i) {rl:List Sp} {b:Nat→Int} (hc:Cyc (lsA c 0) rl b) {o:Int} (ho:1≤o∧o≤601):∃p,F40L2 ([],rl) o k (0,List.replicate c.Edges.length 0)=some (.inr p)∧Cq c o rl rl.length p:=by
 have hm:=hv.edges
 have hlen:=hc.len
 have key:∀(r j f:Nat) (p:List Int),r+j=rl.length→r<f→Cq c o rl j p→∃p',F40L2 ([],rl) o f ((j:Int),p)=some (.inr p')∧Cq c o rl rl.length p':=by
  intro r
  induction r with
  | zero =>
   intro j f p hr hf hq
   obtain ⟨f,rfl⟩:∃y,f=y+1:=⟨f-1,by omega⟩
   refine ⟨p,?_,by rw [show rl.length=j by omega];exact hq⟩
   rw [F40L2]
   dsimp only
   rw [if_neg (by simp;omega)]
  | succ r ih =>
   intro j f p hr hf hq
   obtain ⟨f,rfl⟩:∃y,f=y+1:=⟨f-1,by omega⟩
   have hj:j<rl.length:=by omega
   have hmem:=(hc.mem j hj).1
   have hpl:=hq.pl
   rw [F40L2]
   dsimp only
   rw [if_pos (by simp;omega),idx_nat hj,Option.bind_some,w64_id (n:=(j:Int)+1) (by omega) (by omega)]
   rcases ((mem_lsA hv).1 _).1 hmem with ⟨i,hi',_,h⟩|⟨i,hi',h⟩
   ·have hpb:=hq.pb i hi'
    have hen:=ends hv hi'

    have fin:∀(s:Int) (fr to mo:Int),rl[j]! = ⟨fr,to,mo,(i:Int),s⟩→(s=1∨s = -1)→fE c i p[i]! - o*mo≤fE c i (p[i]! + s*o)→((c.Edges[i]!.A=fr∧c.Edges[i]!.B=to∧s=1)∨(c.Edges[i]!.B=fr∧c.Edges[i]!.A=to∧s = -1)) →
     ∃p',(if (decide (rl[j]!.edge≥0)) then ((idx p rl[j]!.edge).bind fun x18=>(idx p rl[j]!.edge).bind fun x19=>F40L2 ([],rl) o f ((j:Int)+1,(p.set rl[j]!.edge.toNat (w64 (x18+(w64 (rl[j]!.sign*o))))))) else (F40L2 ([],rl) o f ((j:Int)+1,p)))=some (.inr p')∧Cq c o rl rl.length p':=by
     intro s fr to mo he hs hf2 hends
     have hso : -601≤s*o∧s*o≤601:=by rcases hs with rfl|rfl<;>omega
     have h1:eM rl j=mo:=by unfold eM;rw [he];exact if_pos (by simp only;omega)
     have h2:∀v,eD rl v j=one fr v-one to v:=fun v=>by unfold eD;rw [he];exact if_pos (by simp only;omega)
     rw [he]
     simp only
     rw [if_pos (decide_eq_true (by omega)),idx_nat (by omega),Option.bind_some,Option.bind_some,Int.toNat_natCast,w64_id (n:=s*o) (by omega) (by omega),w64_id (n:=p[i]! + s*o) (by omega) (by omega)]
     refine ih (j+1) f _ (by omega) (by omega) ⟨by simp [hpl],fun e he'=>?_,?_,fun v hvs=>?_⟩
     ·have:=hq.pb e he'
      rw [get_set (by omega) (by omega)]
      by_cases e2:i=e
      ·subst e2;rw [if_pos rfl];omega
      ·rw [if_neg e2];omega
     ·rw [cnts_set hpl hi',sumN,h1,Int.mul_add]
      have:=hq.ct
      omega
     ·rw [gv_set hv hpl hi' _ hvs,hq.gv v hvs,sumN,h2,Int.mul_add]
      congr 1
      rcases hends with ⟨ea,eb,rfl⟩|⟨ea,eb,rfl⟩
      ·rw [ea,eb,Int.mul_sub]
       unfold one
       by_cases q1:fr=(v:Int)<;>by_cases q2:to=(v:Int)
       ·rw [if_pos q1,if_pos q2,if_pos q1,if_pos q2];omega
       ·rw [if_pos q1,if_neg q2,if_pos q1,if_neg q2];omega
       ·rw [if_neg q1,if_pos q2,if_neg q1,if_pos q2];omega
       ·rw [if_neg q1,if_neg q2,if_neg q1,if_neg q2];omega
      ·rw [ea,eb,Int.mul_sub]
       unfold one
       by_cases q1:fr=(v:Int)<;>by_cases q2:to=(v:Int)
       ·rw [if_pos q1,if_pos q2,if_pos q1,if_pos q2];omega
       ·rw [if_pos q1,if_neg q2,if_pos q1,if_neg q2];omega
       ·rw [if_neg q1,if_pos q2,if_neg q1,if_pos q2];omega
       ·rw [if_neg q1,if_neg q2,if_neg q1,if_neg q2];omega
    rcases h with h|h
    ·have hd:=fE_down (hsd i hi') (q:=p[i]!) (o:=o) (by omega)
     exact fin (-1) c.Edges[i]!.B c.Edges[i]!.A (hi c i) h (.inr rfl) (by rw [show p[i]! + -1*o=p[i]! - o by omega];exact hd) (.inr ⟨rfl,rfl,rfl⟩)
    ·have hd:=fE_up (hsd i hi') (q:=p[i]!) (o:=o) (by omega)
     exact fin 1 c.Edges[i]!.A c.Edges[i]!.B (0-lo c i) h (.inl rfl) (by rw [show p[i]! + 1*o=p[i]! + o by omega,Int.mul_sub,Int.mul_zero];omega) (.inl ⟨rfl,rfl,rfl⟩)
   ·have he:rl[j]!.edge = -1:=by rcases h with h|h<;>rw [h]<;>rfl
    rw [he,if_neg (by simp)]
    refine ih (j+1) f p (by omega) (by omega) ⟨hpl,fun e he'=>?_,?_,fun v hvs=>?_⟩
    ·have:=hq.pb e he';omega
    ·rw [sumN,show eM rl j=0 from if_neg (by rw [he];omega),Int.add_zero];exact hq.ct
    ·rw [sumN,show eD rl v j=0 from if_neg (by rw [he];omega),Int.add_zero];exact hq.gv v hvs
 have hz:∀i:Nat,(List.replicate c.Edges.length (0:Int))[i]! = 0:=fun i=>by
  by_cases h:i<c.Edges.length
  ·exact get_rep h
  ·exact get_end (by simp;omega)
 exact key rl.length 0 k (List.replicate c.Edges.length 0) (by omega) (by omega) ⟨by simp,fun i hi=>by rw [hz];omega,by
  rw [sumN_zero (f:=cnt c (List.replicate c.Edges.length 0)) fun i _=>by unfold cnt;rw [hz];simp]
  simp [sumN],fun v hvs=>by
  unfold Go.Proofs.Ytallnifoeahpiaa.gv gvp
  rw [sumN_zero fun i _=>by rw [hz];simp]
  simp [sumN]⟩
theorem swap {F:Nat→Nat→Int} {L:Nat}:∀{n:Nat},sumN n (fun v=>sumN L (fun k=>F v k))=sumN L (fun k=>sumN n (fun v=>F v k)):=by
 intro n
 induction n with
 | zero=>exact (sumN_zero fun _ _=>rfl).symm
 | succ n ih =>
  rw [sumN,ih,←sumN_add]
  rfl
theorem sumN_mul {a:Int} {f:Nat→Int}:∀{n:Nat},sumN n (fun k=>a*f k)=a*sumN n f:=by
 intro n
 induction n with
 | zero=>simp [sumN]
 | succ n ih=>rw [sumN,sumN,ih,Int.mul_add]

theorem cyc_bound {c:Cs} (hv:Val c) {rl:List Sp} {b:Nat→Int} (hc:Cyc (lsA c 0) rl b) {o:Int} (ho:1≤o) {p:List Int} (hq:Cq c o rl rl.length p):o≤bound c p:=by
 have hsum:sumN rl.length (eM rl)+sumN rl.length (rM rl)<0:=by
  rw [←sumN_add]
  rw [sumN_congr (g:=fun j=>rl[j]!.most) fun j _=>by unfold eM rM;split<;>omega]
  exact hc.neg
 have hD:∀v:Int,sumN rl.length (eD rl v)+sumN rl.length (rD rl v)=0:=fun v=>by
  rw [←sumN_add]
  rw [sumN_congr (g:=fun j=>one (b (j+1)) v-one (b j) v) fun j hj=>by
   have:=hc.mem j hj
   rw [←this.2.1,←this.2.2]
   unfold eD rD
   split<;>omega]
  have:∀n,sumN n (fun j=>one (b (j+1)) v-one (b j) v)=one (b n) v-one (b 0) v:=by
   intro n
   induction n with
   | zero=>simp [sumN]
   | succ n ih=>rw [sumN,ih];omega
  rw [this,hc.back];omega
 have hT:∀v:Int,-sumN rl.length (rT rl v)≤sumN rl.length (rD rl v)∧sumN rl.length (rD rl v)≤sumN rl.length (rT rl v):=fun v=>by
  have a1:∀a,0≤one a v:=fun a=>by unfold one;split<;>omega
  constructor
  ·have:sumN rl.length (fun k=>0-rT rl v k)≤sumN rl.length (rD rl v):=sumN_le fun k _=>by
    have:=a1 rl[k]!.from_;have:=a1 rl[k]!.to_
    unfold rT rD;split<;>omega
   have h2:sumN rl.length (fun k=>(0-rT rl v k)+rT rl v k)=0:=sumN_zero fun k _=>by omega
   rw [sumN_add] at h2
   omega
  ·exact sumN_le fun k _=>by
    have:=a1 rl[k]!.from_;have:=a1 rl[k]!.to_
    unfold rT rD;split<;>omega

 have hoff:sumN c.Sheets.length (off c (gv c p))≤sumN c.Sheets.length (fun v=>o*(c.Sheets[v]!.Most*sumN rl.length (rT rl v))):=sumN_le fun v hvs=>by
  have hm:=most_ok hv hvs
  have hg:=hq.gv v hvs
  have h1:=hD v
  have h2:=hT v
  have ha:absI (gv c p v)≤o*sumN rl.length (rT rl v):=by
   rw [absI_le,hg,show sumN rl.length (eD rl v) = -sumN rl.length (rD rl v) by omega,←Int.mul_neg]
   exact ⟨Int.mul_le_mul_of_nonneg_left (by omega) (by omega),Int.mul_le_mul_of_nonneg_left (by omega) (by omega)⟩
  have h0:=absI_nonneg (gv c p v)
  unfold off
  have h3:c.Sheets[v]!.Most*(if absI (gv c p v)-c.Sheets[v]!.Weight>0 then absI (gv c p v)-c.Sheets[v]!.Weight else 0)≤c.Sheets[v]!.Most*(o*sumN rl.length (rT rl v)):=Int.mul_le_mul_of_nonneg_left (by split<;>omega) hm.1
  rw [show o*(c.Sheets[v]!.Most*sumN rl.length (rT rl v))=c.Sheets[v]!.Most*(o*sumN rl.length (rT rl v)) by rw [←Int.mul_assoc,Int.mul_comm o,Int.mul_assoc]]
  exact h3
 rw [sumN_mul] at hoff
 have hr:sumN c.Sheets.length (fun v=>c.Sheets[v]!.Most*sumN rl.length (rT rl v))=sumN rl.length (rM rl):=by
  rw [sumN_congr (g:=fun v=>sumN rl.length (fun k=>c.Sheets[v]!.Most*rT rl v k)) fun v _=>sumN_mul.symm,swap]
  refine sumN_congr fun k hk=>?_
  rcases ((mem_lsA hv).1 _).1 (hc.mem k hk).1 with ⟨i,hi',_,h⟩|⟨i,hi',h⟩
  ·have he:rl[k]!.edge≥0:=by rcases h with h|h<;>rw [h]<;>show (i:Int)≥0<;>omega
   rw [show rM rl k=0 from if_pos he]
   exact sumN_zero fun v _=>by rw [show rT rl v k=0 from if_pos he];simp
  ·have he:¬rl[k]!.edge≥0:=by rcases h with h|h<;>rw [h]<;>show ¬(-1:Int)≥0<;>omega
   have hmo:rM rl k=c.Sheets[i]!.Most:=by
    unfold rM
    rw [if_neg he]
    rcases h with h|h<;>rw [h]<;>rfl
   have hw:∀v:Nat,v<c.Sheets.length→c.Sheets[v]!.Most*rT rl v k=(if (i:Int)=(v:Int) then 1 else 0)*c.Sheets[v]!.Most:=fun v hvs=>by
    rw [Int.mul_comm]
    congr 1
    unfold rT
    rw [if_neg he]
    unfold one
    rcases h with h|h<;>rw [h]
    ·show (if (c.Sheets.length:Int)=(v:Int) then 1 else 0)+(if (i:Int)=(v:Int) then 1 else 0)=_
     rw [if_neg (show ¬(c.Sheets.length:Int)=(v:Int) by omega)];omega
    ·show (if (i:Int)=(v:Int) then 1 else 0)+(if (c.Sheets.length:Int)=(v:Int) then 1 else 0)=_
     rw [if_neg (show ¬(c.Sheets.length:Int)=(v:Int) by omega)];omega
   rw [sumN_congr hw,pick (f:=fun v=>c.Sheets[v]!.Most) (by omega),if_pos (by omega),Int.toNat_natCast,hmo];omega
 rw [hr] at hoff
 have hct:=hq.ct
 unfold bound
 have hmul:o*(sumN rl.length (eM rl)+sumN rl.length (rM rl))≤o*(-1):=Int.mul_le_mul_of_nonneg_left (by omega) (by omega)
 rw [Int.mul_add] at hmul
 omega
theorem sound_iff {c:Cs}:soundB c=true↔∀i,i<c.Edges.length→lo c i≤hi c i:=by
 unfold soundB
 rw [List.all_eq_true]
 constructor
 ·intro h i hi';exact of_decide_eq_true (h _ (mem_get hi'))
 ·intro h x hx
  obtain ⟨i,hi',rfl⟩:=List.getElem_of_mem hx
  have:=h i hi'
  unfold lo hi at this
  rw [getElem!_pos c.Edges i hi'] at this
  exact decide_eq_true this

def ProofOk (c:Cs) (r:List Int×Int):Prop :=
 ((chk c).2.2≠0∧r=([],(chk c).2.2))∨((chk c).2.2=0∧soundB c=false∧r=([],9)) ∨
 ((chk c).2.2=0∧soundB c=true∧r.2=0∧r.1.length=c.Edges.length∧okPr r.1∧(((∀x,¬Ag c x)∧dear c<bound c r.1)∨∃x,Opt c x∧bound c r.1=cost c x))
theorem e40 {k:Nat} (hk:300≤k) (c:Cs):∃r,F40 k c=some r∧ProofOk c r:=by
 unfold F40
 by_cases h:(chk c).2.2=0
 ·have hv:=chk_val (chk_err h)
  have hs:=hv.sheets
  have hm:=hv.edges
  rw [e68 (by omega) h,Option.bind_some,outK_inl]
  cases hsd:soundB c with
  | false=>exact ⟨_,rfl,.inr (.inl ⟨h,hsd,rfl⟩)⟩
  | true =>
   simp only [if_true]
   rw [if_neg (by simp),need_true (by omega),Option.bind_some,Int.toNat_natCast]
   have hall:=sound_iff.1 hsd
   rcases tight (k:=k) (by omega) hv 0 c.Sheets.length (Nat.le_refl _) c.Tol [] with ⟨d,h1,h2,h3,h4,h5⟩|⟨rl,b,h1,h2,_,h3⟩
   ·rw [h1,Option.bind_some]
    simp only
    rw [if_neg (by simp)]
    rcases e66 (k:=k) (by omega) hv c.Tol with ⟨g1,_⟩|⟨x,m,g1,g2,g3,g4⟩
    ·exact absurd ⟨chOf_len,h4⟩ (g1 _)
    ·obtain ⟨p,p1,p2,p3,p4⟩:=e78 hk hv g3 c.Tol m
     rw [g1,Option.bind_some]
     simp only
     rw [need_true g3.1.len,Option.bind_some,cutN5 g3.1.len,Option.bind_some,p1,Option.bind_some,need_true (by simp [p2]),Option.bind_some]
     exact ⟨_,rfl,.inr (.inr ⟨h,hsd,rfl,p2,p3,.inr ⟨x,g3,p4⟩⟩)⟩
   ·have hd:=dear_bd hv
    rw [h1,Option.bind_some]
    simp only
    rw [if_pos (nbeq_pos (by have:=h2.pos;omega)),e40L1 (by omega) hv,Option.bind_some,outK_inr]
    obtain ⟨p,p1,p2⟩:=e40L2 (k:=k) (by omega) hv hall h2 (o:=1+dear c) (by omega)
    rw [p1,Option.bind_some]
    refine ⟨_,rfl,.inr (.inr ⟨h,hsd,rfl,p2.pl,fun v (hv':v∈p)=>?_,.inl ⟨fun x hx=>h3 x ⟨hx.2,get_end (by rw [hx.1];exact Nat.le_refl _)⟩,?_⟩⟩)⟩
    ·obtain ⟨i,hi',rfl⟩:=List.getElem_of_mem hv'
     have hpl:=p2.pl
     have:=p2.pb i (by omega)
     have hl:=h2.len
     rw [getElem!_pos p i hi'] at this
     omega
    ·have:=cyc_bound hv h2 (by omega) p2
     simp only
     omega
 ·rw [e68_err (by omega) h,Option.bind_some,outK_inr,if_pos (by simpa using h)]
  exact ⟨_,rfl,.inl ⟨h,rfl⟩⟩
end Go.Proofs.Ytallnifoeahpiaa
