/- A case without some edges. -/
import Derived.Test.YtallnifoeahpiaaR2
import Derived.Test.YtallnifoeahpiaaPN
import Derived.Test.YtallnifoeahpiaaDRL
namespace Go.Proofs.Ytallnifoeahpiaa
open Go Go.Sx
set_option linter.all false


def lessC (c:Cs) (l:List Int):Cs:=⟨c.Tol,c.Sheets,foldI (fun i x (s:List Eg)=>if (i:Int)∈l then s else s++[x]) c.Edges 0 []⟩
theorem mem_less {c:Cs} {l:List Int}:(∀x,x∈(lessC c l).Edges↔∃i,i<c.Edges.length∧(i:Int) ∉ l∧x=c.Edges[i]!)∧(lessC c l).Edges.length≤c.Edges.length:=by
 refine foldI_inv (l:=c.Edges) _ (fun j (s:List Eg)=>(∀x,x∈s↔∃i,i<j∧(i:Int) ∉ l∧x=c.Edges[i]!)∧s.length≤j) ?_ [] ⟨fun y=>⟨fun h=>by simp at h,fun ⟨i,h,_⟩=>by omega⟩,by simp⟩
 intro i s hi' hp
 by_cases hk:(i:Int)∈l
 ·rw [if_pos hk]
  refine ⟨fun x=>?_,by omega⟩
  rw [hp.1]
  constructor
  ·rintro ⟨q,h1,h2⟩;exact ⟨q,by omega,h2⟩
  ·rintro ⟨q,h1,h2,h3⟩
   by_cases e:q=i
   ·subst e;exact absurd hk h2
   ·exact ⟨q,by omega,h2,h3⟩
 ·rw [if_neg hk]
  refine ⟨fun x=>?_,by simp;omega⟩
  rw [List.mem_append,hp.1,List.mem_singleton]
  constructor
  ·rintro (⟨q,h1,h2⟩|h)
   ·exact ⟨q,by omega,h2⟩
   ·exact ⟨i,by omega,hk,h⟩
  ·rintro ⟨q,h1,h2,h3⟩
   by_cases e:q=i
   ·subst e;exact .inr h3
   ·exact .inl ⟨q,by omega,h2,h3⟩
theorem less_chk {c:Cs} (h:(chk c).2.2=0) (l:List Int):(chk (lessC c l)).2.2=0:=by
 have hc:=chk_zero.1 h
 have hm:=mem_less (c:=c) (l:=l)
 refine chk_zero.2 ⟨hc.1,hc.2.1,by omega,hc.2.2.2.1,hc.2.2.2.2.1,fun x hx=>?_⟩
 obtain ⟨i,hi,_,rfl⟩:=(hm.1 x).1 hx
 exact hc.2.2.2.2.2 _ (mem_get hi)
theorem ag_mem {c:Cs} {x:List Int}:Ag c x↔x.length=c.Sheets.length∧(∀i,i<c.Sheets.length → -c.Sheets[i]!.Most≤x[i]! ∧ x[i]! ≤ c.Sheets[i]!.Most)∧∀e∈c.Edges,(want c e).1≤x[e.A.toNat]! - x[e.B.toNat]! ∧ x[e.A.toNat]! - x[e.B.toNat]! ≤ (want c e).2:=by
 constructor
 ·rintro ⟨h1,h2⟩
  refine ⟨h1,h2.box,fun e he=>?_⟩
  obtain ⟨i,hi',rfl⟩:=List.getElem_of_mem he
  have:=h2.eg i hi' (keep0 i)
  unfold lo hi at this
  rw [getElem!_pos c.Edges i hi'] at this
  exact this
 ·rintro ⟨h1,h2,h3⟩
  exact ⟨h1,h2,fun i hi _=>h3 _ (mem_get hi)⟩
theorem ag_less {c:Cs} {l:List Int}:(∃x,Ag (lessC c l) x)↔Feas c l:=by
 have hm:=(mem_less (c:=c) (l:=l)).1
 have hw:∀e,want (lessC c l) e=want c e:=want_tol rfl
 constructor
 ·rintro ⟨x,hx⟩
  obtain ⟨h1,h2,h3⟩:=ag_mem.1 hx
  refine ⟨x,h1,h2,fun i hi hn=>?_⟩
  have:=h3 _ ((hm _).2 ⟨i,hi,hn,rfl⟩)
  rw [hw] at this
  exact this
 ·rintro ⟨x,h1,h2,h3⟩
  refine ⟨x,ag_mem.2 ⟨h1,h2,fun e he=>?_⟩⟩
  obtain ⟨i,hi',hn,rfl⟩:=(hm _).1 he
  rw [hw]
  exact h3 i hi' hn
theorem e79 {k:Nat} {l:List Int} {n:Int} (hk:l.length<k) (hl:l.length<2^62):F79 k l n=some (decide (n∈l)):=by
 unfold F79
 have h:=for_loop (l:=l) (L:=F79L1 l n) (β:=Bool) (γ:=Unit) (σ:=Unit) (fun i _=>(i:Int)) (fun s=>s) (fun _ x _=>if x==n then .inl true else .inr ()) (fun _ _=>True) (fun _ _ _ _ _ _=>trivial)
  (fun m i s hi _=>by
   rw [F79L1,if_pos (by simp;omega),idx_nat hi,Option.bind_some]
   cases l[i]! == n with
   | true=>rfl
   | false=>simp only [Bool.false_eq_true,if_false];rw [w64_id (by omega) (by omega)];rfl)
  (fun m s _=>by rw [F79L1,if_neg (by simp)]) k () trivial hk
 have hr:∀(l:List Int) (i:Nat),runE (β:=Bool) (fun _ x (_:Unit)=>if x==n then .inl true else .inr ()) l i ()=if n∈l then .inl true else .inr ():=by
  intro l
  induction l with
  | nil=>intro i;simp [runE]
  | cons x l ih =>
   intro i
   rw [runE]
   by_cases e:x=n
   ·subst e;simp
   ·rw [if_neg (by simpa using e)]
    simp only
    rw [ih]
    by_cases hm:n∈l
    ·rw [if_pos hm,if_pos (List.mem_cons_of_mem _ hm)]
    ·rw [if_neg hm,if_neg (by simp [hm];exact fun h=>e h.symm)]
 rw [show (0:Int)=((0:Nat):Int) from rfl,h,Option.bind_some,hr]
 by_cases hm:n∈l
 ·rw [if_pos hm,decide_eq_true hm];rfl
 ·rw [if_neg hm,decide_eq_false hm];rfl
theorem e43 {k:Nat} {c:Cs} (hk:10≤k) (hm:c.Edges.length≤8) {l:List Int} (hl:l.length<k) (hl2:l.length<2^62):F43 k c l=some (lessC c l):=by
 have h:=for_fold (l:=c.Edges) (L:=F43L1 k c l) (β:=Cs) (σ:=List Eg) (fun i s=>((i:Int),s)) (fun s=>s) (fun i x (s:List Eg)=>if (i:Int)∈l then s else s++[x]) (fun i s=>s.length≤i)
  (fun i s hi hp=>by
   split
   ·omega
   ·simp;omega)
  (fun n i s hi hp=>by
   rw [F43L1]
   dsimp only
   rw [if_pos (by simp;omega),e79 hl hl2,Option.bind_some,w64_id (n:=(i:Int)+1) (by omega) (by omega)]
   by_cases hm:(i:Int)∈l
   ·rw [decide_eq_true hm,if_neg (by simp),if_pos hm];rfl
   ·rw [decide_eq_false hm,if_pos (by rfl),if_neg hm,idx_nat hi,Option.bind_some,need_true (by simp only [List.length_cons,List.length_nil];omega),Option.bind_some];rfl)
  (fun n s _=>by rw [F43L1,if_neg (by simp)]) k [] (by simp) (by omega)
 unfold F43
 rw [show ((0:Int),([]:List Eg))=(((0:Nat):Int),[]) from rfl,h]
 rfl
end Go.Proofs.Ytallnifoeahpiaa
