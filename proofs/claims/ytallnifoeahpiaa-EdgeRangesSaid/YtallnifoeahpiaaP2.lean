/- The reference looks at all changes that agree. -/
import Derived.Test.YtallnifoeahpiaaP1
import Derived.Test.YtallnifoeahpiaaDRC
namespace Go.Proofs.Ytallnifoeahpiaa
open Go Go.Sx
set_option linter.all false


structure FeP (c:Cs) (l:List Int):Prop where
 le:l.length≤c.Sheets.length
 box:∀i,i<l.length → -c.Sheets[i]!.Most≤l[i]! ∧ l[i]! ≤ c.Sheets[i]!.Most
 eg:∀e∈c.Edges,e.A<l.length→e.B<l.length→agB c l e=true

def fitB (c:Cs) (l:List Int) (x:Eg):Bool:=if (if x.B>x.A then x.B else x.A)==(l.length:Int)-1 then agB c l x else true
theorem e87 {k:Nat} {c:Cs} (hk:40≤k) (hv:Val c) {l:List Int} (h1:1≤l.length) (hn:∀i,i<l.length → -1000≤l[i]! ∧ l[i]! ≤ 1000) (h5:l.length≤5):F87 k c l=some (c.Edges.all (fitB c l)):=by
 have hs:=hv.sheets
 have hm:=hv.edges
 have h:=for_loop (l:=c.Edges) (L:=F87L1 k c l) (β:=Bool) (γ:=Unit) (σ:=Unit) (fun i _=>(i:Int)) (fun s=>s) (fun i x _=>if fitB c l x then .inr () else .inl false) (fun _ _=>True) (fun _ _ _ _ _ _=>trivial)
  (fun n i s hi _=>by
   have he:=ends hv hi
   rw [F87L1,if_pos (by simp;omega),idx_nat hi,Option.bind_some,w64_id (n:=(l.length:Int)-1) (by omega) (by omega),w64_id (n:=(i:Int)+1) (by omega) (by omega)]
   unfold fitB
   by_cases hq:(if c.Edges[i]!.B>c.Edges[i]!.A then c.Edges[i]!.B else c.Edges[i]!.A)=(l.length:Int)-1
   ·have hb:((if c.Edges[i]!.B>c.Edges[i]!.A then c.Edges[i]!.B else c.Edges[i]!.A)==(l.length:Int)-1)=true:=by simpa using hq
    rw [hb]
    have ha:c.Edges[i]!.A<l.length∧c.Edges[i]!.B<l.length:=by split at hq<;>omega
    simp only [optG_true,cond_true,if_true]
    rw [idx_bang (by omega) (by omega),Option.bind_some,idx_bang (by omega) (by omega),Option.bind_some,e85 (by omega) hv (mem_get hi) (hn _ (by omega)) (hn _ (by omega)),Option.bind_some]
    rw [show okN (want c c.Edges[i]!).1 (want c c.Edges[i]!).2 (l[c.Edges[i]!.A.toNat]! - l[c.Edges[i]!.B.toNat]!)=agB c l c.Edges[i]! from rfl]
    cases agB c l c.Edges[i]! <;> rfl
   ·have hb:((if c.Edges[i]!.B>c.Edges[i]!.A then c.Edges[i]!.B else c.Edges[i]!.A)==(l.length:Int)-1)=false:=by simpa using hq
    rw [hb]
    simp only [optG_false,cond_false,Option.bind_some,Bool.false_eq_true,if_false,if_true]
    rfl)
  (fun n s _=>by rw [F87L1,if_neg (by simp)]) k () trivial (by omega)
 have hr:∀(es:List Eg) (i:Nat),runE (β:=Bool) (fun i (x:Eg) (_:Unit)=>if fitB c l x then .inr () else .inl false) es i ()=if es.all (fitB c l) then .inr () else .inl false:=by
  intro es
  induction es with
  | nil=>intro i;rfl
  | cons x es ih =>
   intro i
   rw [runE,List.all_cons]
   cases fitB c l x with
   | true=>simp only [if_true,Bool.true_and];exact ih (i+1)
   | false=>rfl
 unfold F87
 rw [show (0:Int)=((0:Nat):Int) from rfl,h,Option.bind_some,hr]
 cases c.Edges.all (fitB c l)<;>rfl


def Low (c:Cs) (x:List Int):Prop:=Ag c x∧∀y,Ag c y→cost c x≤cost c y∧(cost c y=cost c x→Le c x y)

structure FoundOk (c:Cs) (j:Nat) (E:List Int→Prop) (is:Bool) (best:List Int) (lo hi:Int):Prop where
 yes:is=true→E best∧(∀x,E x→cost c best≤cost c x)∧(∃x,E x∧x[j]! = lo)∧(∃x,E x∧x[j]! = hi)∧∀x,E x→lo≤x[j]! ∧ x[j]! ≤ hi
 no:is=false→∀x,¬E x
 low:∀x,Low c x→E x→is=true∧best=x
theorem FoundOk.congr {c:Cs} {j:Nat} {E F:List Int→Prop} {is:Bool} {best:List Int} {lo hi:Int} (h:FoundOk c j E is best lo hi) (he:∀x,E x↔F x):FoundOk c j F is best lo hi:=by
 have:E=F:=funext fun x=>propext (he x)
 rw [←this];exact h
theorem FoundOk.union {c:Cs} {j k:Nat} {E F:List Int→Prop} {b1 b2:List Int} {l1 h1 l2 h2:Int} (h:FoundOk c j E true b1 l1 h1) (g:FoundOk c j F true b2 l2 h2) (hk:k<c.Sheets.length) (hE:∀x,E x→Ag c x) (hF:∀x,F x→Ag c x) (hlt:∀x y,E x→F y→x[k]! < y[k]!) :
 FoundOk c j (fun x=>E x∨F x) true (if cost c b2<cost c b1 then b2 else b1) (if l2<l1 then l2 else l1) (if h2>h1 then h2 else h1):=by
 obtain ⟨p1,p2,⟨x1,p3,p4⟩,⟨y1,p5,p6⟩,p7⟩:=h.yes rfl
 obtain ⟨q1,q2,⟨x2,q3,q4⟩,⟨y2,q5,q6⟩,q7⟩:=g.yes rfl
 refine ⟨fun _=>⟨?_,?_,?_,?_,?_⟩,fun e=>by simp at e,?_⟩
 ·split
  ·exact .inr q1
  ·exact .inl p1
 ·rintro x (hx|hx)
  ·have:=p2 x hx;split<;>omega
  ·have:=q2 x hx;split<;>omega
 ·split
  ·exact ⟨x2,.inr q3,q4⟩
  ·exact ⟨x1,.inl p3,p4⟩
 ·split
  ·exact ⟨y2,.inr q5,q6⟩
  ·exact ⟨y1,.inl p5,p6⟩
 ·rintro x (hx|hx)
  ·have:=p7 x hx;constructor<;>split<;>omega
  ·have:=q7 x hx;constructor<;>split<;>omega
 ·rintro x hl (hx|hx)
  ·have hb:=(h.low x hl hx).2
   have:=(hl.2 b2 (hF _ q1)).1
   exact ⟨rfl,by rw [if_neg (by rw [hb];omega)];exact hb⟩
  ·have hb:=(g.low x hl hx).2
   have h3:=hl.2 b1 (hE _ p1)
   have h4:=hlt b1 x p1 hx
   have hne:cost c b1≠cost c x:=fun e=>by have:=h3.2 e k hk;omega
   exact ⟨rfl,by rw [if_pos (by rw [hb];omega)];exact hb⟩
theorem FoundOk.empty {c:Cs} {j:Nat} {E:List Int→Prop} {best:List Int} {lo hi:Int} (h:∀x,¬E x):FoundOk c j E false best lo hi :=
 ⟨fun e=>by simp at e,fun _=>h,fun x _ hx=>absurd hx (h x)⟩


def Ext (c:Cs) (begin:List Int) (x:List Int):Prop:=Ag c x∧x.take begin.length=begin
theorem ext_snoc {c:Cs} {begin x:List Int} {v:Int} (hl:begin.length<c.Sheets.length):Ext c (begin++[v]) x↔Ext c begin x∧x[begin.length]! = v:=by
 unfold Ext
 constructor
 ·rintro ⟨h1,h2⟩
  have hxl:=h1.1
  simp only [List.length_append,List.length_cons,List.length_nil,Nat.zero_add] at h2
  rw [List.take_succ_eq_append_getElem (by omega)] at h2
  have h3:=List.append_inj h2 (by simp;omega)
  refine ⟨⟨h1,h3.1⟩,?_⟩
  rw [getElem!_pos x _ (by omega)]
  simpa using h3.2
 ·rintro ⟨⟨h1,h2⟩,h3⟩
  have hxl:=h1.1
  refine ⟨h1,?_⟩
  simp only [List.length_append,List.length_cons,List.length_nil,Nat.zero_add]
  rw [List.take_succ_eq_append_getElem (by omega),h2]
  rw [getElem!_pos x _ (by omega)] at h3
  rw [h3]
theorem ext_get {c:Cs} {begin x:List Int} (h:Ext c begin x) (hl:begin.length≤c.Sheets.length) {i:Nat} (hi:i<begin.length):x[i]! = begin[i]! := by
 have:=h.1.1
 have h2:=take_get (l:=x) (n:=begin.length) (i:=i) hi (by omega)
 rw [h.2] at h2
 exact h2.symm
theorem ext_fits {c:Cs} (hv:Val c) {l x:List Int} (hl:l.length≤c.Sheets.length) (h:Ext c l x):c.Edges.all (fitB c l)=true:=by
 rw [List.all_eq_true]
 intro e he
 unfold fitB
 have hen:=hv.eg e he
 obtain ⟨i,hi',rfl⟩:=List.getElem_of_mem he
 by_cases hq:((if c.Edges[i].B>c.Edges[i].A then c.Edges[i].B else c.Edges[i].A)==(l.length:Int)-1)=true
 ·rw [if_pos hq]
  have hq':=eq_of_beq hq
  have ha:c.Edges[i].A<l.length∧c.Edges[i].B<l.length:=by split at hq'<;>omega
  have:=h.1.2.eg i hi' (keep0 i)
  unfold lo Go.Proofs.Ytallnifoeahpiaa.hi at this
  rw [getElem!_pos c.Edges i hi',ext_get h hl (by omega),ext_get h hl (by omega)] at this
  exact okN_iff.2 this
 ·rw [if_neg hq]

theorem all_loop {k:Nat} {c:Cs} (hk:40≤k) (hv:Val c) {begin:List Int} (hb:begin.length<c.Sheets.length) (hbox:FeP c begin) (j:Nat) {R:List Int→Option S_hachureref02qFound}
 (hR:∀v,-c.Sheets[begin.length]!.Most≤v→v≤c.Sheets[begin.length]!.Most→c.Edges.all (fitB c (begin++[v]))=true→∃f,R (begin++[v])=some f∧FoundOk c j (Ext c (begin++[v])) f.Is f.Best f.Range.Lo f.Range.Hi)
 {L:Nat→(Int×Bool×(List Int)×Int×Int)→Option ((S_hachureref02qFound)⊕(Bool×(List Int)×Int×Int))}
 (hL:∀n8 c7,L (n8+1) c7=if (decide (c7.1≤c.Sheets[begin.length]!.Most)) then ((need ((([]:List Int).length+begin.length)*8≤140737488355328∧([]:List Int).length+begin.length≤9223372036854775807)).bind fun x10=>(need (((([]:List Int)++begin).length+([c7.1]:List Int).length)*8≤140737488355328∧(([]:List Int)++begin).length+([c7.1]:List Int).length≤9223372036854775807)).bind fun x11=>(F87 k c ((([]:List Int)++begin)++([c7.1]:List Int))).bind fun x12=>if (!x12) then (L n8 ((w64 (c7.1+1)),c7.2.1,c7.2.2.1,c7.2.2.2.1,c7.2.2.2.2)) else ((R ((([]:List Int)++begin)++([c7.1]:List Int))).bind fun x14=>if (!x14.Is) then (L n8 ((w64 (c7.1+1)),c7.2.1,c7.2.2.1,c7.2.2.2.1,c7.2.2.2.2)) else (if (!c7.2.1) then (L n8 ((w64 (c7.1+1)),x14.Is,x14.Best,x14.Range.Lo,x14.Range.Hi)) else ((F39 k c x14.Best).bind fun x17=>(F39 k c c7.2.2.1).bind fun x18=>if (decide (x17<x18)) then (L n8 ((w64 (c7.1+1)),c7.2.1,x14.Best,(if x14.Range.Lo<c7.2.2.2.1 then x14.Range.Lo else c7.2.2.2.1),(if x14.Range.Hi>c7.2.2.2.2 then x14.Range.Hi else c7.2.2.2.2))) else (L n8 ((w64 (c7.1+1)),c7.2.1,c7.2.2.1,(if x14.Range.Lo<c7.2.2.2.1 then x14.Range.Lo else c7.2.2.2.1),(if x14.Range.Hi>c7.2.2.2.2 then x14.Range.Hi else c7.2.2.2.2))))))) else (some (.inr (c7.2.1,c7.2.2.1,c7.2.2.2.1,c7.2.2.2.2)))) :
 ∀(m g:Nat) (v:Int) (is:Bool) (best:List Int) (l h:Int),v+m=c.Sheets[begin.length]!.Most+1 → -c.Sheets[begin.length]!.Most≤v→m<g→FoundOk c j (fun x=>Ext c begin x∧x[begin.length]! < v) is best l h →
  ∃is' best' l' h',L g (v,is,best,l,h)=some (.inr (is',best',l',h'))∧FoundOk c j (Ext c begin) is' best' l' h':=by
 have hs:=hv.sheets
 have hmo:=most_ok hv hb
 intro m
 induction m with
 | zero =>
  intro g v is best l h hm hv0 hg hf
  obtain ⟨g,rfl⟩:∃q,g=q+1:=⟨g-1,by omega⟩
  refine ⟨is,best,l,h,?_,hf.congr fun x=>⟨fun hx=>hx.1,fun hx=>⟨hx,?_⟩⟩⟩
  ·rw [hL,if_neg (by rw [decide_eq_false (by omega)];simp)]
  ·have:=hx.1.2.box _ hb;omega
 | succ m ih =>
  intro g v is best l h hm hv0 hg hf
  obtain ⟨g,rfl⟩:∃q,g=q+1:=⟨g-1,by omega⟩
  have hlen:(begin++[v]).length=begin.length+1:=by simp
  have hnear:∀i,i<(begin++[v]).length → -1000≤(begin++[v])[i]! ∧ (begin++[v])[i]! ≤ 1000:=by
   intro i hi
   by_cases e:i<begin.length
   ·have h1:=hbox.box i e
    have h2:=most_ok hv (i:=i) (by omega)
    rw [getElem!_pos (begin++[v]) i hi,List.getElem_append_left e]
    rw [getElem!_pos begin i e] at h1
    omega
   ·have:i=begin.length:=by omega
    subst this
    have hm2:=most_ok hv hb
    have e2:(begin++[v])[begin.length]! = v:=by rw [getElem!_pos (begin++[v]) _ hi,List.getElem_append_right (Nat.le_refl _)];simp
    rw [e2]
    omega
  have hsplit:∀x,(Ext c begin x∧x[begin.length]! < v+1)↔((Ext c begin x∧x[begin.length]! < v)∨Ext c (begin++[v]) x):=fun x=>by
   rw [ext_snoc hb]
   constructor
   ·rintro ⟨h1,h2⟩
    by_cases e:x[begin.length]! = v
    ·exact .inr ⟨h1,e⟩
    ·exact .inl ⟨h1,by omega⟩
   ·rintro (⟨h1,h2⟩|⟨h1,h2⟩)
    ·exact ⟨h1,by omega⟩
    ·exact ⟨h1,by omega⟩
  rw [hL]
  dsimp only
  rw [if_pos (decide_eq_true (by omega)),need_true (by simp;omega),Option.bind_some,need_true (by simp;omega),Option.bind_some,List.nil_append,e87 hk hv (by omega) hnear (by omega),Option.bind_some,w64_id (n:=v+1) (by omega) (by omega)]
  have hskip:(∀x,¬Ext c (begin++[v]) x)→FoundOk c j (fun x=>Ext c begin x∧x[begin.length]! < v+1) is best l h:=fun hno=>hf.congr fun x=>by
   rw [hsplit]
   exact ⟨fun h => .inl h,fun h=>h.elim id fun h=>absurd h (hno x)⟩
  cases hfit:c.Edges.all (fitB c (begin++[v])) with
  | false =>
   rw [if_pos (by rfl)]
   exact ih g (v+1) is best l h (by omega) (by omega) (by omega) (hskip fun x hx=>by rw [ext_fits hv (by omega) hx] at hfit;simp at hfit)
  | true =>
   rw [if_neg (by simp)]
   obtain ⟨f,hf1,hf2⟩:=hR v hv0 (by omega) hfit
   rw [hf1,Option.bind_some]
   cases hfi:f.Is with
   | false =>
    rw [if_pos (by rfl)]
    exact ih g (v+1) is best l h (by omega) (by omega) (by omega) (hskip (hf2.no hfi))
   | true =>
    rw [if_neg (by simp)]
    rw [hfi] at hf2
    cases is with
    | false =>
     rw [if_pos (by rfl)]
     refine ih g (v+1) _ _ _ _ (by omega) (by omega) (by omega) (hf2.congr fun x=>?_)
     rw [hsplit]
     exact ⟨fun h => .inr h,fun h=>h.elim (fun h=>absurd h (hf.no rfl x)) id⟩
    | true =>
     have a1:=(hf2.yes rfl).1
     have a2:=(hf.yes rfl).1
     have hn:∀x,Ag c x→near c x:=fun x hx i hi=>by
      have h1:=hx.2.box i hi
      have h2:=most_ok hv hi
      omega
     rw [if_neg (by simp),e39 (by omega) hv a1.1.1 (hn _ a1.1),Option.bind_some,e39 (by omega) hv a2.1.1.1 (hn _ a2.1.1),Option.bind_some]
     have hu:=hf.union hf2 hb (fun x hx=>hx.1.1) (fun x hx=>hx.1) (fun x y hx hy=>by
      have:=((ext_snoc hb).1 hy).2
      omega)
     have hu2:=hu.congr (F:=fun x=>Ext c begin x∧x[begin.length]! < v+1) fun x=>(hsplit x).symm
     by_cases hlt:cost c f.Best<cost c best
     ·rw [if_pos (decide_eq_true hlt)]
      rw [if_pos hlt] at hu2
      exact ih g (v+1) _ _ _ _ (by omega) (by omega) (by omega) hu2
     ·rw [if_neg (by rw [decide_eq_false hlt];simp)]
      rw [if_neg hlt] at hu2
      exact ih g (v+1) _ _ _ _ (by omega) (by omega) (by omega) hu2
theorem snoc_get {begin:List Int} {v:Int} {i:Nat}:i<begin.length→(begin++[v])[i]! = begin[i]! := fun e=>by
 rw [getElem!_pos (begin++[v]) i (by simp;omega),List.getElem_append_left e,getElem!_pos begin i e]
theorem snoc_last {begin:List Int} {v:Int}:(begin++[v])[begin.length]! = v:=by
 rw [getElem!_pos (begin++[v]) _ (by simp),List.getElem_append_right (Nat.le_refl _)];simp
theorem feP_snoc {c:Cs} (hv:Val c) {begin:List Int} (hb:begin.length<c.Sheets.length) (h:FeP c begin) {v:Int} (h1 : -c.Sheets[begin.length]!.Most≤v) (h2:v≤c.Sheets[begin.length]!.Most) (hf:c.Edges.all (fitB c (begin++[v]))=true):FeP c (begin++[v]):=by
 refine ⟨by simp;omega,fun i hi=>?_,fun e he ha hb'=>?_⟩
 ·simp only [List.length_append,List.length_cons,List.length_nil,Nat.zero_add] at hi
  by_cases e:i<begin.length
  ·rw [snoc_get e];exact h.box i e
  ·have:i=begin.length:=by omega
   subst this
   rw [snoc_last]
   exact ⟨h1,h2⟩
 ·simp only [List.length_append,List.length_cons,List.length_nil,Nat.zero_add] at ha hb'
  have hen:=hv.eg e he
  have hfe:=List.all_eq_true.1 hf e he
  unfold fitB at hfe
  simp only [List.length_append,List.length_cons,List.length_nil,Nat.zero_add] at hfe
  by_cases hq:(if e.B>e.A then e.B else e.A)=(begin.length:Int)
  ·rw [if_pos (by rw [hq];simp)] at hfe
   exact hfe
  ·have hab:e.A<begin.length∧e.B<begin.length:=by split at hq<;>omega
   have:=h.eg e he hab.1 hab.2
   unfold agB at this ⊢
   rw [snoc_get (by omega),snoc_get (by omega)]
   exact this
theorem fe_of_ext {c:Cs} (hv:Val c) {begin:List Int} (hl:begin.length=c.Sheets.length) {x:List Int} (h:Ext c begin x):x=begin:=by
 have:=h.2
 rw [List.take_of_length_le (by rw [h.1.1];omega)] at this
 exact this
end Go.Proofs.Ytallnifoeahpiaa
