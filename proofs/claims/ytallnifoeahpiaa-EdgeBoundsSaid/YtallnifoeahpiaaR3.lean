/- Without of the reference: lists in order, and whether some changes agree. -/
import Derived.Test.YtallnifoeahpiaaR2
import Derived.Test.YtallnifoeahpiaaPM
import Derived.Test.YtallnifoeahpiaaPN
import Derived.Test.YtallnifoeahpiaaDRD
namespace Go.Proofs.Ytallnifoeahpiaa
open Go Go.Sx
set_option linter.all false



def lst:Nat→Nat→Int→List Int→List (List Int)
 | _,0,_,b=>[b]
 | 0,_+1,_,_=>[]
 | d+1,q+1,i,b=>lst d q (i+1) (b++[i])++lst d (q+1) (i+1) b
theorem lst_len:∀(d q:Nat) (i:Int) (b:List Int),(lst d q i b).length≤2^d:=by
 intro d
 induction d with
 | zero=>intro q i b;cases q<;>simp [lst]
 | succ d ih =>
  intro q i b
  cases q with
  | zero=>simp [lst];exact Nat.pos_of_ne_zero (by simp)
  | succ q =>
   rw [lst,List.length_append,Nat.pow_succ]
   have h1:=ih q (i+1) (b++[i])
   have h2:=ih (q+1) (i+1) b
   omega
theorem mem_lst:∀(d q:Nat) (i:Int) (b l:List Int),l∈lst d q i b↔∃t,l=b++t∧t.length=q∧t.Pairwise (· < ·)∧∀v∈t,i≤v∧v<i+d:=by
 intro d
 induction d with
 | zero =>
  intro q i b l
  cases q with
  | zero =>
   simp only [lst,List.mem_singleton]
   constructor
   ·intro h;exact ⟨[],by simp [h],rfl,List.Pairwise.nil,fun v hv=>by simp at hv⟩
   ·rintro ⟨t,h1,h2,_⟩
    rw [List.length_eq_zero_iff] at h2
    rw [h1,h2,List.append_nil]
  | succ q =>
   simp only [lst,List.not_mem_nil,false_iff]
   rintro ⟨t,_,h2,_,h4⟩
   cases t with
   | nil=>simp at h2
   | cons v t=>have:=h4 v (by simp);omega
 | succ d ih =>
  intro q i b l
  cases q with
  | zero =>
   simp only [lst,List.mem_singleton]
   constructor
   ·intro h;exact ⟨[],by simp [h],rfl,List.Pairwise.nil,fun v hv=>by simp at hv⟩
   ·rintro ⟨t,h1,h2,_⟩
    rw [List.length_eq_zero_iff] at h2
    rw [h1,h2,List.append_nil]
  | succ q =>
   rw [lst,List.mem_append,ih,ih]
   constructor
   ·rintro (⟨t,h1,h2,h3,h4⟩|⟨t,h1,h2,h3,h4⟩)
    ·refine ⟨i::t,by simp [h1],by simp [h2],List.pairwise_cons.2 ⟨fun v hv=>by have:=h4 v hv;omega,h3⟩,fun v hv=>?_⟩
     rcases List.mem_cons.1 hv with e|hv
     ·omega
     ·have:=h4 v hv;omega
    ·exact ⟨t,h1,h2,h3,fun v hv=>by have:=h4 v hv;omega⟩
   ·rintro ⟨t,h1,h2,h3,h4⟩
    cases t with
    | nil=>simp at h2
    | cons v t =>
     rw [List.pairwise_cons] at h3
     have hv:=h4 v (by simp)
     simp only [List.length_cons] at h2
     by_cases e:v=i
     ·subst e
      exact .inl ⟨t,by simp [h1],by omega,h3.2,fun u hu=>by have a:=h3.1 u hu;have b:=h4 u (List.mem_cons_of_mem _ hu);omega⟩
     ·refine .inr ⟨v::t,h1,by simp;omega,List.pairwise_cons.2 h3,fun u hu=>?_⟩
      have b:=h4 u hu
      rcases List.mem_cons.1 hu with e2|hu
      ·omega
      ·have a:=h3.1 u hu;omega
theorem cmpL_pre:∀(p a b:List Int),cmpL (p++a) (p++b)=cmpL a b:=by
 intro p
 induction p with
 | nil=>intro a b;rfl
 | cons x p ih=>intro a b;rw [List.cons_append,List.cons_append,cmpL,if_neg (by omega),if_neg (by omega),ih]
theorem lst_sorted:∀(d q:Nat) (i:Int) (b:List Int),(lst d q i b).Pairwise (fun x y=>cmpL x y≤0):=by
 intro d
 induction d with
 | zero=>intro q i b;cases q<;>simp [lst]
 | succ d ih =>
  intro q i b
  cases q with
  | zero=>simp [lst]
  | succ q =>
   rw [lst,List.pairwise_append]
   refine ⟨ih _ _ _,ih _ _ _,fun x hx y hy=>?_⟩
   obtain ⟨t,rfl,_,_,_⟩:=(mem_lst _ _ _ _ _).1 hx
   obtain ⟨u,rfl,h2,_,h4⟩:=(mem_lst _ _ _ _ _).1 hy
   cases u with
   | nil=>simp at h2
   | cons v u =>
    have:=h4 v (by simp)
    rw [List.append_assoc,cmpL_pre,List.singleton_append,cmpL,if_pos (by omega)]
    decide

def nxt (b:List Int):Int:=if b.length=0 then 0 else b[b.length-1]! + 1
theorem nxt_snoc {b:List Int} {i:Int}:nxt (b++[i])=i+1:=by
 unfold nxt
 rw [if_neg (by simp),show (b++[i]).length-1=b.length by simp,snoc_last]
theorem e74 {m:Nat} (hm:m≤8):∀(q k:Nat) (b:List Int),20+q<k→b.length+q≤20→0≤nxt b→nxt b≤m→F74 k b (q:Int) (m:Int)=some (lst (m-nxt b).toNat q (nxt b) b):=by
 intro q
 induction q with
 | zero =>
  intro k b hk hb h0 h1
  obtain ⟨k,rfl⟩:∃x,k=x+1:=⟨k-1,by omega⟩
  rw [F74]
  unfold B74
  rw [if_pos (by simp)]
  cases (m-nxt b).toNat<;>rfl
 | succ q ih =>
  intro k b hk hb h0 h1
  obtain ⟨k,rfl⟩:∃x,k=x+1:=⟨k-1,by omega⟩
  have loop:∀(d g:Nat) (i:Int) (s:List (List Int)),i+d=m→0≤i→d<g→s.length+2^d≤2^20→F74L1 (F74 k) b ((q+1:Nat):Int) (m:Int) g (i,s)=some (.inr (s++lst d (q+1) i b)):=by
   intro d
   induction d with
   | zero =>
    intro g i s hi hi0 hg hs
    obtain ⟨g,rfl⟩:∃x,g=x+1:=⟨g-1,by omega⟩
    rw [F74L1]
    dsimp only
    rw [if_neg (by rw [decide_eq_false (by omega)];simp),lst,List.append_nil]
   | succ d ihd =>
    intro g i s hi hi0 hg hs
    obtain ⟨g,rfl⟩:∃x,g=x+1:=⟨g-1,by omega⟩
    have hn:nxt (b++[i])=i+1:=nxt_snoc
    have hrec:=ih k (b++[i]) (by omega) (by simp;omega) (by omega) (by omega)
    rw [hn,show (m-(i+1)).toNat=d by omega] at hrec
    have hl:=lst_len d q (i+1) (b++[i])
    rw [Nat.pow_succ] at hs
    have hp:1≤2^d:=Nat.pos_of_ne_zero (by simp)
    rw [F74L1]
    dsimp only
    rw [if_pos (decide_eq_true (by omega)),need_true (by simp;omega),Option.bind_some,need_true (by simp;omega),Option.bind_some,List.nil_append,w64_id (n:=((q+1:Nat):Int)-1) (by omega) (by omega),show ((q+1:Nat):Int)-1=(q:Int) by omega,hrec,Option.bind_some,need_true (by omega),Option.bind_some,w64_id (n:=i+1) (by omega) (by omega),ihd g (i+1) _ (by omega) (by omega) (by omega) (by rw [List.length_append];omega),List.append_assoc]
    rfl
  have hD:(m-nxt b).toNat≤8:=by omega
  have hpow:2^(m-nxt b).toNat≤2^8:=Nat.pow_le_pow_right (by omega) hD
  have hL:=loop (m-nxt b).toNat (k+1) (nxt b) [] (by omega) h0 (by omega) (by simp;omega)
  rw [F74]
  unfold B74
  rw [if_neg (by simp;omega)]
  by_cases hz:b.length=0
  ·have hn:nxt b=0:=by unfold nxt;rw [if_pos hz]
   rw [if_neg (by simp [hz]),Option.bind_some]
   simp only [outK]
   rw [hn] at hL ⊢
   rw [hL,Option.bind_some]
   rfl
  ·have hn:nxt b=b[b.length-1]! + 1:=by unfold nxt;rw [if_neg hz]
   rw [if_pos (by simp;omega),w64_id (n:=(b.length:Int)-1) (by omega) (by omega),idx_bang (by omega) (by omega),Option.bind_some,show ((b.length:Int)-1).toNat=b.length-1 by omega,←hn,w64_id (by omega) (by omega),Option.bind_some]
   simp only [outK]
   rw [hL,Option.bind_some]
   rfl


def lessC (c:Cs) (l:List Int):Cs:=⟨c.Tol,c.Sheets,foldI (fun i x (s:List Eg)=>if (i:Int)∈l then s else s++[x]) c.Edges 0 []⟩
theorem mem_less {c:Cs} {l:List Int}:(∀x,x∈(lessC c l).Edges↔∃i,i<c.Edges.length∧(i:Int) ∉ l∧x=c.Edges[i]!)∧(lessC c l).Edges.length≤c.Edges.length:=by
 refine foldI_inv (l:=c.Edges) _ (fun j (s:List Eg)=>(∀x,x∈s↔∃i,i<j∧(i:Int) ∉ l∧x=c.Edges[i]!)∧s.length≤j) ?_ [] ⟨fun y=>⟨fun h=>by simp at h,fun ⟨i,h,_⟩=>by omega⟩,by simp⟩
 intro i s hi' hp
 by_cases hk:(i:Int)∈l
 ·rw [if_pos hk]
  refine ⟨fun x=>?_,by omega⟩
  rw [hp.1]
  constructor
  ·rintro ⟨q,h1,h2⟩;exact ⟨q,by omega,h2⟩
  ·rintro ⟨q,h1,h2,h3⟩
   by_cases e:q=i
   ·subst e;exact absurd hk h2
   ·exact ⟨q,by omega,h2,h3⟩
 ·rw [if_neg hk]
  refine ⟨fun x=>?_,by simp;omega⟩
  rw [List.mem_append,hp.1,List.mem_singleton]
  constructor
  ·rintro (⟨q,h1,h2⟩|h)
   ·exact ⟨q,by omega,h2⟩
   ·exact ⟨i,by omega,hk,h⟩
  ·rintro ⟨q,h1,h2,h3⟩
   by_cases e:q=i
   ·subst e;exact .inr h3
   ·exact .inl ⟨q,by omega,h2,h3⟩
theorem less_chk {c:Cs} (h:(chk c).2.2=0) (l:List Int):(chk (lessC c l)).2.2=0:=by
 have hc:=chk_zero.1 h
 have hm:=mem_less (c:=c) (l:=l)
 refine chk_zero.2 ⟨hc.1,hc.2.1,by omega,hc.2.2.2.1,hc.2.2.2.2.1,fun x hx=>?_⟩
 obtain ⟨i,hi,_,rfl⟩:=(hm.1 x).1 hx
 exact hc.2.2.2.2.2 _ (mem_get hi)
theorem ag_mem {c:Cs} {x:List Int}:Ag c x↔x.length=c.Sheets.length∧(∀i,i<c.Sheets.length → -c.Sheets[i]!.Most≤x[i]! ∧ x[i]! ≤ c.Sheets[i]!.Most)∧∀e∈c.Edges,(want c e).1≤x[e.A.toNat]! - x[e.B.toNat]! ∧ x[e.A.toNat]! - x[e.B.toNat]! ≤ (want c e).2:=by
 constructor
 ·rintro ⟨h1,h2⟩
  refine ⟨h1,h2.box,fun e he=>?_⟩
  obtain ⟨i,hi',rfl⟩:=List.getElem_of_mem he
  have:=h2.eg i hi' (keep0 i)
  unfold lo hi at this
  rw [getElem!_pos c.Edges i hi'] at this
  exact this
 ·rintro ⟨h1,h2,h3⟩
  exact ⟨h1,h2,fun i hi _=>h3 _ (mem_get hi)⟩
theorem ag_less {c:Cs} {l:List Int}:(∃x,Ag (lessC c l) x)↔Feas c l:=by
 have hm:=(mem_less (c:=c) (l:=l)).1
 have hw:∀e,want (lessC c l) e=want c e:=want_tol rfl
 constructor
 ·rintro ⟨x,hx⟩
  obtain ⟨h1,h2,h3⟩:=ag_mem.1 hx
  refine ⟨x,h1,h2,fun i hi hn=>?_⟩
  have:=h3 _ ((hm _).2 ⟨i,hi,hn,rfl⟩)
  rw [hw] at this
  exact this
 ·rintro ⟨x,h1,h2,h3⟩
  refine ⟨x,ag_mem.2 ⟨h1,h2,fun e he=>?_⟩⟩
  obtain ⟨i,hi',hn,rfl⟩:=(hm _).1 he
  rw [hw]
  exact h3 i hi' hn
theorem e79 {k:Nat} {l:List Int} {n:Int} (hk:l.length<k) (hl:l.length<2^62):F79 k l n=some (decide (n∈l)):=by
 unfold F79
 have h:=for_loop (l:=l) (L:=F79L1 l n) (β:=Bool) (γ:=Unit) (σ:=Unit) (fun i _=>(i:Int)) (fun s=>s) (fun _ x _=>if x==n then .inl true else .inr ()) (fun _ _=>True) (fun _ _ _ _ _ _=>trivial)
  (fun m i s hi _=>by
   rw [F79L1,if_pos (by simp;omega),idx_nat hi,Option.bind_some]
   cases l[i]! == n with
   | true=>rfl
   | false=>simp only [Bool.false_eq_true,if_false];rw [w64_id (by omega) (by omega)];rfl)
  (fun m s _=>by rw [F79L1,if_neg (by simp)]) k () trivial hk
 have hr:∀(l:List Int) (i:Nat),runE (β:=Bool) (fun _ x (_:Unit)=>if x==n then .inl true else .inr ()) l i ()=if n∈l then .inl true else .inr ():=by
  intro l
  induction l with
  | nil=>intro i;simp [runE]
  | cons x l ih =>
   intro i
   rw [runE]
   by_cases e:x=n
   ·subst e;simp
   ·rw [if_neg (by simpa using e)]
    simp only
    rw [ih]
    by_cases hm:n∈l
    ·rw [if_pos hm,if_pos (List.mem_cons_of_mem _ hm)]
    ·rw [if_neg hm,if_neg (by simp [hm];exact fun h=>e h.symm)]
 rw [show (0:Int)=((0:Nat):Int) from rfl,h,Option.bind_some,hr]
 by_cases hm:n∈l
 ·rw [if_pos hm,decide_eq_true hm];rfl
 ·rw [if_neg hm,decide_eq_false hm];rfl
theorem e43 {k:Nat} {c:Cs} (hk:10≤k) (hm:c.Edges.length≤8) {l:List Int} (hl:l.length<k) (hl2:l.length<2^62):F43 k c l=some (lessC c l):=by
 have h:=for_fold (l:=c.Edges) (L:=F43L1 k c l) (β:=Cs) (σ:=List Eg) (fun i s=>((i:Int),s)) (fun s=>s) (fun i x (s:List Eg)=>if (i:Int)∈l then s else s++[x]) (fun i s=>s.length≤i)
  (fun i s hi hp=>by
   split
   ·omega
   ·simp;omega)
  (fun n i s hi hp=>by
   rw [F43L1]
   dsimp only
   rw [if_pos (by simp;omega),e79 hl hl2,Option.bind_some,w64_id (n:=(i:Int)+1) (by omega) (by omega)]
   by_cases hm:(i:Int)∈l
   ·rw [decide_eq_true hm,if_neg (by simp),if_pos hm];rfl
   ·rw [decide_eq_false hm,if_pos (by rfl),if_neg hm,idx_nat hi,Option.bind_some,need_true (by simp only [List.length_cons,List.length_nil];omega),Option.bind_some];rfl)
  (fun n s _=>by rw [F43L1,if_neg (by simp)]) k [] (by simp) (by omega)
 unfold F43
 rw [show ((0:Int),([]:List Eg))=(((0:Nat):Int),[]) from rfl,h]
 rfl
end Go.Proofs.Ytallnifoeahpiaa
