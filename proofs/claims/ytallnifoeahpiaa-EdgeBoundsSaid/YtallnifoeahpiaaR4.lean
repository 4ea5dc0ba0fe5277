/- What Without of the reference answers. -/
import Derived.Test.YtallnifoeahpiaaR3
namespace Go.Proofs.Ytallnifoeahpiaa
open Go Go.Sx
set_option linter.all false


theorem some_loop {k:Nat} {c:Cs} (hk:40≤k) (hv:Val c) {begin:List Int} (hb:begin.length<c.Sheets.length) (hbox:FeP c begin) {R:List Int→Option Bool}
 (hR:∀v,-c.Sheets[begin.length]!.Most≤v→v≤c.Sheets[begin.length]!.Most→c.Edges.all (fitB c (begin++[v]))=true→∃b,R (begin++[v])=some b∧(b=true↔∃x,Ext c (begin++[v]) x))
 {L:Nat→Int→Option (Bool⊕Unit)}
 (hL:∀n5 c4,L (n5+1) c4=if (decide (c4≤c.Sheets[begin.length]!.Most)) then ((need ((([]:List Int).length+begin.length)*8≤140737488355328∧([]:List Int).length+begin.length≤9223372036854775807)).bind fun x7=>(need (((([]:List Int)++begin).length+([c4]:List Int).length)*8≤140737488355328∧(([]:List Int)++begin).length+([c4]:List Int).length≤9223372036854775807)).bind fun x8=>(F87 k c ((([]:List Int)++begin)++([c4]:List Int))).bind fun x9=>(optG x9 (R ((([]:List Int)++begin)++([c4]:List Int)))).bind fun x10=>if (cond x9 x10 false) then (some (.inl true)) else (L n5 (w64 (c4+1)))) else (some (.inr ()))) :
 ∀(m g:Nat) (v:Int),v+m=c.Sheets[begin.length]!.Most+1 → -c.Sheets[begin.length]!.Most≤v→m<g →
  (L g v=some (.inl true)∧∃x,Ext c begin x)∨(L g v=some (.inr ())∧∀x,Ext c begin x→x[begin.length]! < v):=by
 have hs:=hv.sheets
 have hmo:=most_ok hv hb
 intro m
 induction m with
 | zero =>
  intro g v hm hv0 hg
  obtain ⟨g,rfl⟩:∃q,g=q+1:=⟨g-1,by omega⟩
  refine .inr ⟨by rw [hL,if_neg (by rw [decide_eq_false (by omega)];simp)],fun x hx=>?_⟩
  have:=hx.1.2.box _ hb
  omega
 | succ m ih =>
  intro g v hm hv0 hg
  obtain ⟨g,rfl⟩:∃q,g=q+1:=⟨g-1,by omega⟩
  have hlen:(begin++[v]).length=begin.length+1:=by simp
  have hnear:∀i,i<(begin++[v]).length → -1000≤(begin++[v])[i]! ∧ (begin++[v])[i]! ≤ 1000:=by
   intro i hi
   by_cases e:i<begin.length
   ·have h1:=hbox.box i e
    have h2:=most_ok hv (i:=i) (by omega)
    rw [snoc_get e]
    omega
   ·have:i=begin.length:=by omega
    subst this
    rw [snoc_last]
    omega
  rw [hL]
  rw [if_pos (decide_eq_true (by omega)),need_true (by simp;omega),Option.bind_some,need_true (by simp;omega),Option.bind_some,List.nil_append,e87 hk hv (by omega) hnear (by omega),Option.bind_some,w64_id (n:=v+1) (by omega) (by omega)]
  have hskip:(∀x,¬Ext c (begin++[v]) x)→(L g (v+1)=some (.inl true)∧∃x,Ext c begin x)∨(L g (v+1)=some (.inr ())∧∀x,Ext c begin x→x[begin.length]! < v):=fun hno=>by
   rcases ih g (v+1) (by omega) (by omega) (by omega) with h|⟨h1,h2⟩
   ·exact .inl h
   ·refine .inr ⟨h1,fun x hx=>?_⟩
    have:=h2 x hx
    by_cases e:x[begin.length]! = v
    ·exact absurd ((ext_snoc hb).2 ⟨hx,e⟩) (hno x)
    ·omega
  cases hfit:c.Edges.all (fitB c (begin++[v])) with
  | false =>
   rw [optG_false,Option.bind_some]
   simp only [cond_false,Bool.false_eq_true,if_false]
   exact hskip fun x hx=>by rw [ext_fits hv (by omega) hx] at hfit;simp at hfit
  | true =>
   obtain ⟨b,hb1,hb2⟩:=hR v hv0 (by omega) hfit
   rw [optG_true,hb1,Option.bind_some]
   cases b with
   | true =>
    simp only [cond_true,if_true]
    obtain ⟨x,hx⟩:=hb2.1 rfl
    exact .inl ⟨trivial,x,((ext_snoc hb).1 hx).1⟩
   | false =>
    simp only [cond_true,Bool.false_eq_true,if_false]
    exact hskip fun x hx=>by have:=hb2.2 ⟨x,hx⟩;simp at this
theorem e95v1 {c:Cs} (hv:Val c):∀(d k:Nat) (begin:List Int),begin.length+d=c.Sheets.length→40+d<k→FeP c begin→∃b,F95v1 k c begin=some b∧(b=true↔∃x,Ext c begin x):=by
 have hs:=hv.sheets
 intro d
 induction d with
 | zero =>
  intro k begin hl hk hb
  obtain ⟨k,rfl⟩:∃q,k=q+1:=⟨k-1,by omega⟩
  rw [F95v1]
  unfold B95v1
  rw [if_pos (by simp;omega)]
  exact ⟨true,rfl,fun _=>⟨begin,ext_self hv hb (by omega)⟩,fun _=>rfl⟩
 | succ d ih =>
  intro k begin hl hk hb
  obtain ⟨k,rfl⟩:∃q,k=q+1:=⟨k-1,by omega⟩
  have hlt:begin.length<c.Sheets.length:=by omega
  have hmo:=most_ok hv hlt
  rw [F95v1]
  unfold B95v1
  rw [if_neg (by simp;omega),idx_nat hlt,Option.bind_some,w64_id (n:=0-c.Sheets[begin.length]!.Most) (by omega) (by omega)]
  have h:=some_loop (k:=k+1) (by omega) hv hlt hb (R:=fun l=>F95v1 k c l)
   (fun v a1 a2 a3=>ih k (begin++[v]) (by simp;omega) (by omega) (feP_snoc hv hlt hb a1 a2 a3))
   (L:=F95v1L1 (k+1) (F95v1 k) c begin c.Sheets[begin.length]!) (fun n c4=>by rw [F95v1L1])
   (c.Sheets[begin.length]!.Most+1+c.Sheets[begin.length]!.Most).toNat (k+1) (0-c.Sheets[begin.length]!.Most) (by omega) (by omega) (by omega)
  rcases h with ⟨h1,h2⟩|⟨h1,h2⟩
  ·rw [h1,Option.bind_some]
   exact ⟨true,rfl,fun _=>h2,fun _=>rfl⟩
  ·rw [h1,Option.bind_some]
   refine ⟨false,rfl,fun e=>by simp at e,fun ⟨x,hx⟩=>?_⟩
   have a:=h2 x hx
   have b:=hx.1.2.box _ hlt
   omega
theorem e75 {k:Nat} (hk:100≤k) {c:Cs} (hv:Val c):∃b,F75 k c=some b∧(b=true↔∃x,Ag c x):=by
 have hs:=hv.sheets
 have hb:FeP c []:=⟨by simp,fun i hi=>by simp at hi,fun e he ha=>by have:=hv.eg e he;simp at ha;omega⟩
 have hlt:([]:List Int).length<c.Sheets.length:=by simp;omega
 have hmo:=most_ok hv hlt
 unfold F75 F95
 rw [if_neg (by simp;omega),show (0:Int)=((([]:List Int).length:Nat):Int) from rfl,idx_nat hlt,Option.bind_some]
 rw [show ((([]:List Int).length:Nat):Int)=0 from rfl,w64_id (n:=0-c.Sheets[([]:List Int).length]!.Most) (by omega) (by omega)]
 have h:=some_loop (k:=k) (by omega) hv hlt hb (R:=fun l=>F95v1 k c l)
  (fun v a1 a2 a3=>e95v1 hv (c.Sheets.length-1) k ([]++[v]) (by simp;omega) (by omega) (feP_snoc hv hlt hb a1 a2 a3))
  (L:=F95L1 k c c.Sheets[([]:List Int).length]!) (fun n c4=>by rw [F95L1])
  (c.Sheets[([]:List Int).length]!.Most+1+c.Sheets[([]:List Int).length]!.Most).toNat k (0-c.Sheets[([]:List Int).length]!.Most) (by omega) (by omega) (by omega)
 rcases h with ⟨h1,x,h2⟩|⟨h1,h2⟩
 ·rw [h1,Option.bind_some]
  exact ⟨true,rfl,fun _=>⟨x,h2.1⟩,fun _=>rfl⟩
 ·rw [h1,Option.bind_some]
  refine ⟨false,rfl,fun e=>by simp at e,fun ⟨x,hx⟩=>?_⟩
  have a:=h2 x ⟨hx,rfl⟩
  have b:=hx.2.box _ hlt
  omega

theorem e33L2 {k:Nat} (hk:100≤k) {c:Cs} (h:(chk c).2.2=0) {x7:List (List Int)} (hx:x7.length≤256) (hl:∀l∈x7,l.length≤8):∀(suf pre:List (List Int)) (g:Nat),x7=pre++suf→suf.length<g →
 (∃p l q,suf=p++l::q∧Feas c l∧F33L2 k c x7 g (pre.length:Int)=some (.inl (l,0))∧∀l'∈p,¬Feas c l')∨((∀l∈suf,¬Feas c l)∧F33L2 k c x7 g (pre.length:Int)=some (.inr ())):=by
 have hv:=chk_val (chk_err h)
 intro suf
 induction suf with
 | nil =>
  intro pre g he hg
  obtain ⟨g,rfl⟩:∃q,g=q+1:=⟨g-1,by simp at hg;omega⟩
  rw [List.append_nil] at he;subst he
  refine .inr ⟨fun l h=>by simp at h,?_⟩
  rw [F33L2,if_neg (by simp)]
 | cons l suf ih =>
  intro pre g he hg
  obtain ⟨g,rfl⟩:∃q,g=q+1:=⟨g-1,by simp at hg;omega⟩
  have hxl:x7.length=pre.length+suf.length+1:=by rw [he];simp;omega
  have hg':idx x7 (pre.length:Int)=some l:=by rw [he];exact idx_mid rfl
  have hll:=hl l (by rw [he];simp)
  have hlv:=chk_val (chk_err (less_chk h l))
  obtain ⟨b,b1,b2⟩:=e75 hk hlv
  rw [F33L2,if_pos (by simp;omega),hg',Option.bind_some,e43 (by omega) hv.edges (by omega) (by omega),Option.bind_some,show (⟨(lessC c l).Tol,(lessC c l).Sheets,(lessC c l).Edges⟩:S_api_EdCase)=lessC c l from rfl,b1,Option.bind_some]
  have hf:b=true↔Feas c l:=by rw [b2,ag_less]
  cases b with
  | true =>
   rw [if_pos rfl,Option.bind_some]
   exact .inl ⟨[],l,suf,rfl,hf.1 rfl,rfl,fun l' h'=>by simp at h'⟩
  | false =>
   have hno:¬Feas c l:=fun hf'=>by have:=hf.2 hf';simp at this
   rw [if_neg (by simp),w64_id (by omega) (by omega)]
   have:=ih (pre++[l]) g (by simp [he]) (by simp at hg;omega)
   simp only [List.length_append,List.length_cons,List.length_nil,Nat.zero_add,Int.natCast_add,Int.natCast_one] at this
   rcases this with ⟨p,l',q,a1,a2,a3,a4⟩|⟨a1,a2⟩
   ·refine .inl ⟨l::p,l',q,by rw [a1];rfl,a2,a3,fun u hu=>?_⟩
    rcases List.mem_cons.1 hu with rfl|hu
    ·exact hno
    ·exact a4 u hu
   ·refine .inr ⟨fun u hu=>?_,a2⟩
    rcases List.mem_cons.1 hu with rfl|hu
    ·exact hno
    ·exact a1 u hu
theorem mem_lst0 {m q:Nat} {l:List Int}:l∈lst m q 0 []↔Asc m l∧l.length=q:=by
 rw [mem_lst]
 constructor
 ·rintro ⟨t,h1,h2,h3,h4⟩
  rw [List.nil_append] at h1;subst h1
  exact ⟨⟨h3,fun v hv=>by have:=h4 v hv;omega⟩,h2⟩
 ·rintro ⟨⟨h1,h2⟩,h3⟩
  exact ⟨l,rfl,h3,h1,fun v hv=>by have:=h2 v hv;omega⟩
theorem e33L1 {k:Nat} (hk:300≤k) {c:Cs} (h:(chk c).2.2=0):∀(r v g:Nat),v+r=c.Edges.length+1→r<g→(∀l,Asc c.Edges.length l→l.length<v→¬Feas c l) →
 ∃l,F33L1 k c g (v:Int)=some (.inl (l,0))∧Asc c.Edges.length l∧Feas c l∧∀l',Asc c.Edges.length l'→Feas c l'→Bet l l':=by
 have hv:=chk_val (chk_err h)
 have hm:=hv.edges
 intro r
 induction r with
 | zero =>
  intro v g hr hg hno
  exfalso
  obtain ⟨S,a1,a2,a3⟩:=feas_all hv
  refine hno _ (bits_asc _ S) ?_ a3
  have:(bitsL c.Edges.length S).length≤c.Edges.length:=by
   unfold bitsL bitsN
   rw [List.length_map]
   exact Nat.le_trans (List.length_filter_le _ _) (by simp)
  omega
 | succ r ih =>
  intro v g hr hg hno
  obtain ⟨g,rfl⟩:∃q,g=q+1:=⟨g-1,by omega⟩
  have hn0:nxt []=0:=rfl
  have h74:=e74 hm v k [] (by omega) (by simp;omega) (by omega) (by rw [hn0];omega)
  rw [hn0,show ((c.Edges.length:Int)-0).toNat=c.Edges.length by omega] at h74
  have hlen:=lst_len c.Edges.length v 0 []
  have hpow:2^c.Edges.length≤2^8:=Nat.pow_le_pow_right (by omega) hm
  have hl2:=e33L2 (k:=k) (by omega) h (x7:=lst c.Edges.length v 0 []) (by omega) (fun l hl=>by have:=(mem_lst0.1 hl).2;omega) (lst c.Edges.length v 0 []) [] k rfl (by omega)
  rw [F33L1,if_pos (decide_eq_true (by omega)),h74,Option.bind_some]
  rcases hl2 with ⟨p,l,q,a1,a2,a3,a4⟩|⟨a1,a2⟩
  ·rw [show F33L2 k c (lst c.Edges.length v 0 []) k 0=_ from a3,Option.bind_some]
   simp only [outK]
   have hl:=mem_lst0.1 (show l∈lst c.Edges.length v 0 [] by rw [a1];simp)
   refine ⟨l,rfl,hl.1,a2,fun l' b1 b2=>?_⟩
   by_cases e:l'.length=v
   ·have hin:=(mem_lst0 (q:=v)).2 ⟨b1,e⟩
    rw [a1] at hin
    rcases List.mem_append.1 hin with hin|hin
    ·exact absurd b2 (a4 l' hin)
    ·rcases List.mem_cons.1 hin with rfl|hin
     ·exact .inr ⟨rfl,by have:=cmpL_flip l' l';omega⟩
     ·have hs:=lst_sorted c.Edges.length v 0 []
      rw [a1,List.pairwise_append,List.pairwise_cons] at hs
      exact .inr ⟨by omega,hs.2.1.1 l' hin⟩
   ·have:¬l'.length<v:=fun hlt=>hno l' b1 hlt b2
    exact .inl (by omega)
  ·rw [show F33L2 k c (lst c.Edges.length v 0 []) k 0=_ from a2,Option.bind_some]
   simp only [outK]
   rw [w64_id (by omega) (by omega)]
   exact ih (v+1) g (by omega) (by omega) fun l b1 b2=>by
    by_cases e:l.length=v
    ·exact a1 l (mem_lst0.2 ⟨b1,e⟩)
    ·exact hno l b1 (by omega)
theorem e33 {k:Nat} (hk:300≤k) (c:Cs):∃r,F33 k c=some r∧WithoutOk c r:=by
 unfold F33
 rw [e17 (by omega),Option.bind_some]
 by_cases h:(chk c).2.2=0
 ·have hv:=chk_val (chk_err h)
  rw [if_neg (by simpa using h)]
  obtain ⟨l,h1,h2,h3,h4⟩:=e33L1 hk h (c.Edges.length+1) 0 k (by omega) (by have:=hv.edges;omega) (fun l _ hl=>by omega)
  rw [show F33L1 k c k 0=_ from h1,Option.bind_some]
  exact ⟨_,rfl,.inr ⟨h,rfl,h2,h3,h4⟩⟩
 ·rw [if_pos (by simpa using h)]
  exact ⟨_,rfl,.inl ⟨h,rfl⟩⟩
end Go.Proofs.Ytallnifoeahpiaa
