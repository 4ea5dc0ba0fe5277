/- The law EdgeNamed. -/
import Derived.Test.YtallnifoeahpiaaRC
import Derived.Test.YtallnifoeahpiaaP7
import Derived.Test.YtallnifoeahpiaaDLG
namespace Go.Proofs.Ytallnifoeahpiaa
open Go Go.Sx
set_option linter.all false
theorem asc_len {m:Nat} (h8:m≤8) {l:List Int} (h:Asc m l):l.length≤m:=by
 obtain ⟨S,_,_,rfl⟩:=asc_bits h8 h
 unfold bitsL bitsN
 rw [List.length_map]
 exact Nat.le_trans (List.length_filter_le _ _) (by simp)
theorem e44 {k:Nat} {c:Cs} (hk:10≤k) (hm:c.Edges.length≤8) (b:Int):∃l,F44 k c b=some l∧Asc c.Edges.length l:=by
 have key:∀(r i g:Nat) (s:List Int),r+i=c.Edges.length→r<g→Asc i s→s.length≤i→∃l,F44L1 c b g ((i:Int),s)=some (.inr l)∧Asc c.Edges.length l:=by
  intro r
  induction r with
  | zero =>
   intro i g s hi hg hs hl
   obtain ⟨g,rfl⟩:∃q,g=q+1:=⟨g-1,by omega⟩
   rw [F44L1]
   dsimp only
   rw [if_neg (by simp;omega)]
   exact ⟨s,rfl,by rw [show c.Edges.length=i by omega];exact hs⟩
  | succ r ih =>
   intro i g s hi hg hs hl
   obtain ⟨g,rfl⟩:∃q,g=q+1:=⟨g-1,by omega⟩
   rw [F44L1]
   dsimp only
   rw [if_pos (by simp;omega),need_true (by omega),Option.bind_some,w64_id (n:=(i:Int)+1) (by omega) (by omega)]
   cases ((b / 2^min (i:Int).toNat 8).tmod 2==1) with
   | true =>
    rw [if_pos rfl,need_true (by simp only [List.length_cons,List.length_nil];omega),Option.bind_some]
    refine ih (i+1) g (s++[(i:Int)]) (by omega) (by omega) ⟨?_,fun v hv=>?_⟩ (by simp;omega)
    ·rw [List.pairwise_append]
     refine ⟨hs.1,by simp,fun x hx y hy=>?_⟩
     rw [List.mem_singleton] at hy
     have:=hs.2 x hx
     omega
    ·rcases List.mem_append.1 hv with hv|hv
     ·have:=hs.2 v hv;omega
     ·rw [List.mem_singleton] at hv;omega
   | false =>
    rw [if_neg (by simp)]
    exact ih (i+1) g s (by omega) (by omega) ⟨hs.1,fun v hv=>by have:=hs.2 v hv;omega⟩ (by omega)
 obtain ⟨l,h1,h2⟩:=key c.Edges.length 0 k [] (by omega) (by omega) ⟨List.Pairwise.nil,fun v hv=>by simp at hv⟩ (by simp)
 unfold F44
 rw [show ((0:Int),([]:List Int))=(((0:Nat):Int),[]) from rfl,h1,Option.bind_some]
 exact ⟨l,rfl,h2⟩
theorem asc_get {m:Nat} {l:List Int} (h:Asc m l) {i j:Nat} (hij:i<j) (hj:j<l.length):l[i]! < l[j]! := by
 rw [getElem!_pos l i (by omega),getElem!_pos l j hj]
 exact List.pairwise_iff_getElem.1 h.1 i j (by omega) hj hij
theorem e9L1 {k:Nat} {c:Cs} {r:List Int×Int} (hk:r.1.length<k) (h62:r.1.length<2^62) (h:Asc c.Edges.length r.1):F9L1 c r k 0=some (.inr ()):=by
 have h:=for_loop (l:=r.1) (L:=F9L1 c r) (β:=Bool) (γ:=Unit) (σ:=Unit) (fun i _=>(i:Int)) (fun s=>s) (fun _ _ _ => .inr ()) (fun _ _=>True) (fun _ _ _ _ _ _=>trivial)
  (fun n i s hi _=>by
   have hb:=h.2 _ (mem_get hi)
   rw [F9L1,if_pos (by simp;omega),idx_nat hi,Option.bind_some,decide_eq_false (show ¬r.1[i]! < 0 by omega)]
   simp only [Bool.not_false,optG_true,cond_false,Option.bind_some]
   rw [decide_eq_false (show ¬r.1[i]! ≥ (c.Edges.length:Int) by omega)]
   simp only [Bool.not_false,Bool.true_and,cond_false]
   by_cases h0:i=0
   ·subst h0
    rw [decide_eq_false (show ¬((0:Nat):Int)>0 by omega)]
    simp only [optG_false,Option.bind_some,cond_false,Bool.false_eq_true,if_false]
    rw [w64_id (by omega) (by omega)]
    rfl
   ·rw [decide_eq_true (show (i:Int)>0 by omega)]
    simp only [optG_true,Option.bind_some,cond_true]
    have hp:=asc_get h (i:=i-1) (j:=i) (by omega) hi
    rw [w64_id (n:=(i:Int)-1) (by omega) (by omega),show (i:Int)-1=((i-1:Nat):Int) by omega,idx_nat (by omega),Option.bind_some,decide_eq_false (by omega),if_neg (by simp),w64_id (by omega) (by omega)]
    rfl)
  (fun n s _=>by rw [F9L1,if_neg (by simp)]) k () trivial hk
 have hr:∀(l:List Int) (i:Nat),runE (β:=Bool) (fun _ _ (_:Unit) => .inr ()) l i () = .inr ():=by
  intro l
  induction l with
  | nil=>intro i;rfl
  | cons x l ih=>intro i;rw [runE];exact ih (i+1)
 rw [show (0:Int)=((0:Nat):Int) from rfl,h,hr]
 rfl
theorem law9 (c:Cs) (b:Int) (x:List Int) (hx:Small x):F9 1000 c b x=some true:=by
 obtain ⟨r,r1,r2⟩:=e32 (k:=1000) (by omega) c
 unfold F9
 rw [r1,Option.bind_some,e36 (by omega),Option.bind_some]
 rcases r2 with ⟨h,rfl⟩|⟨h,r3,r4,r5,r6⟩
 ·rw [show ((chk c).2.2==0)=false by simpa using h,if_pos (by rfl)]
  simp only [show ((chk c).2.2 != 0)=true by simpa using h,awake]
  rfl
 ·have hv:=chk_val (chk_err h)
  have hm:=hv.edges
  have hl:=asc_len hm r4
  obtain ⟨o,o1,o2⟩:=e44 (k:=1000) (by omega) hm b
  have hol:=asc_len hm o2
  have hc1:=less_chk h r.1
  have hc2:=less_chk h o
  obtain ⟨s,s1,s2⟩:=least_in (k:=1000) (by omega) hc1
  obtain ⟨u,u1,u2⟩:=least_in (k:=1000) (by omega) hc2
  have hs0:s.2.2=0:=by
   rcases s2 with ⟨s3,_⟩|⟨s3,_⟩
   ·obtain ⟨y,hy⟩:=ag_less.2 r5
    exact absurd hy (s3 y)
   ·exact s3
  rw [show ((chk c).2.2==0)=true by simpa using h,if_neg (by simp),e9L1 (by omega) (by omega) r4,Option.bind_some]
  simp only [outK]
  rw [e43 (by omega) hm (by omega) (by omega),Option.bind_some,show (⟨(lessC c r.1).Tol,(lessC c r.1).Sheets,(lessC c r.1).Edges⟩:S_api_EdCase)=lessC c r.1 from rfl,s1,Option.bind_some,o1,Option.bind_some,e43 (by omega) hm (by omega) (by omega),Option.bind_some,show (⟨(lessC c o).Tol,(lessC c o).Sheets,(lessC c o).Edges⟩:S_api_EdCase)=lessC c o from rfl,u1,Option.bind_some,r3,hs0]
  by_cases hlen:o.length≥r.1.length
  ·rw [decide_eq_true (show (o.length:Int)≥(r.1.length:Int) by omega)]
   have hu:(cond (u.2.2 != 0) (u.2.2 != 9) false)=false:=by
    rcases u2 with ⟨_,rfl⟩|⟨u3,_⟩
    ·rfl
    ·rw [u3];rfl
   rw [hu]
   simp only [bne_self_eq_false,cond_false,Bool.false_eq_true,if_false,Bool.not_true,Bool.false_and,optG_false,Option.bind_some,cond_true,optG_true,awake]
  ·rw [decide_eq_false (show ¬(o.length:Int)≥(r.1.length:Int) by omega)]
   have hno:¬Feas c o:=fun hf=>by
    rcases r6 o o2 hf with h1|⟨h1,_⟩<;>omega
   have hno2:∀y,¬Ag (lessC c o) y:=fun y hy=>hno (ag_less.1 ⟨y,hy⟩)
   have hu:u=([],0,9):=by
    rcases u2 with ⟨_,h1⟩|⟨_,_,h1,_⟩
    ·exact h1
    ·exact absurd h1 (hno2 _)
   have hv2:=chk_val (chk_err hc2)
   obtain ⟨l,l1,l2⟩:=e37 (k:=1000) (by omega) hv2 hx
   subst hu
   have hodd:¬oddF (lessC c o) l<0:=fun hh=>hno2 l (ag_iff.2 ⟨l2,hh⟩)
   simp only [bne_self_eq_false,cond_false,cond_true,Bool.false_eq_true,if_false,Bool.not_false,Bool.true_and,beq_self_eq_true,optG_true]
   rw [if_neg (by decide),l1,Option.bind_some,e38 (by omega) hc2 l2,Option.bind_some,decide_eq_false hodd]
   simp only [Bool.not_false,optG_true,awake,Option.bind_some]
   rfl
end Go.Proofs.Ytallnifoeahpiaa
